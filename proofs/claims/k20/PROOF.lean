import PyProof.Rows.All
import Wide.All
import OpenK.AllK
import Wide.FinOn
import HandS.ForMost
import HandS.Nested
import HandS.Wide
import HandS.IsInst
import HandS.SortInts
import HandS.Walk
import HandS.Rev
import HandS.Steps
import HandS.List
import PyProof.AutoSeq1
import PyProof.ListOps
import HandS.SetFor
import HandS.SortKw
import HandS.Conv
import HandS.Text
import KE.SortKeyHeap
import KE.KNestM
import KE.KLam
import HandS.EndTab
import HandS.Zip
import HandS.RevTup
import HandS.TupAny
import HandS.RaiseMore
import HandS.StrMore
import PyProof.StrOps2
import PySem.Challenge.RW_moodtree_k20_whole_chart_written
set_option Elab.async false
set_option linter.all false
set_option maxRecDepth 100000
set_option maxHeartbeats 4000000
set_option maxHeartbeats 1000000
/-! VL: values as plain data trees over L2's judgements. -/
namespace VL
open PySem L2

/-- a value as data; the mark m of a mutable object: true: it can be reached from here alone -/
inductive D where
  | non | bl (b : Bool) | int (i : Int) | str (x : Str)
  | tup (xs : List D) | lst (m : Bool) (xs : List D)
  | dic (m : Bool) (ks : List Key) (vs : List D)
  | dit (m : Bool) (ks : List (List Key)) (vs : List D)
  | obj (m : Bool) (c : Str) (ns : List Str) (vs : List D)
  | opq
mutual
def frz : D → D
  | .non => .non
  | .bl b => .bl b
  | .int i => .int i
  | .str x => .str x
  | .tup xs => .tup (frzL xs)
  | .lst _ xs => .lst false (frzL xs)
  | .dic _ ks vs => .dic false ks (frzL vs)
  | .dit _ ks vs => .dit false ks (frzL vs)
  | .obj _ c ns vs => .obj false c ns (frzL vs)
  | .opq => .opq
def frzL : List D → List D
  | [] => []
  | x :: xs => frz x :: frzL xs
end
mutual
/-- no object in it is marked -/
def noOwn : D → Bool
  | .non => true
  | .bl _ => true
  | .int _ => true
  | .str _ => true
  | .tup xs => noOwnL xs
  | .lst m xs => !m && noOwnL xs
  | .dic m _ vs => !m && noOwnL vs
  | .dit m _ vs => !m && noOwnL vs
  | .obj m _ _ vs => !m && noOwnL vs
  | .opq => true
def noOwnL : List D → Bool
  | [] => true
  | x :: xs => noOwn x && noOwnL xs
end
mutual
/-- every mutable object in it is marked -/
def alo : D → Bool
  | .non => true
  | .bl _ => true
  | .int _ => true
  | .str _ => true
  | .tup xs => aloL xs
  | .lst m xs => m && aloL xs
  | .dic m _ vs => m && aloL vs
  | .dit m _ vs => m && aloL vs
  | .obj m _ _ vs => m && aloL vs
  | .opq => true
def aloL : List D → Bool
  | [] => true
  | x :: xs => alo x && aloL xs
end
theorem frzL_map : ∀ xs : List D, frzL xs = xs.map frz
  | [] => rfl
  | x :: xs => by rw [frzL, frzL_map xs]; rfl
theorem noOwnL_all : ∀ xs : List D, noOwnL xs = xs.all noOwn
  | [] => rfl
  | x :: xs => by rw [noOwnL, noOwnL_all xs]; rfl
theorem aloL_all : ∀ xs : List D, aloL xs = xs.all alo
  | [] => rfl
  | x :: xs => by rw [aloL, aloL_all xs]; rfl
mutual
theorem frz_noOwn : ∀ d : D, noOwn (frz d) = true
  | .non => rfl
  | .bl _ => rfl
  | .int _ => rfl
  | .str _ => rfl
  | .tup xs => by rw [frz, noOwn]; exact frzL_noOwn xs
  | .lst _ xs => by rw [frz, noOwn, frzL_noOwn xs]; rfl
  | .dic _ _ xs => by rw [frz, noOwn, frzL_noOwn xs]; rfl
  | .dit _ _ xs => by rw [frz, noOwn, frzL_noOwn xs]; rfl
  | .obj _ _ _ xs => by rw [frz, noOwn, frzL_noOwn xs]; rfl
  | .opq => rfl
theorem frzL_noOwn : ∀ d : List D, noOwnL (frzL d) = true
  | [] => rfl
  | x :: xs => by rw [frzL, noOwnL, frz_noOwn x, frzL_noOwn xs]; rfl
end
mutual
theorem frz_id : ∀ d : D, noOwn d = true → frz d = d
  | .non, _ => rfl
  | .bl _, _ => rfl
  | .int _, _ => rfl
  | .str _, _ => rfl
  | .tup xs, h => by rw [frz, frzL_id xs h]
  | .lst m xs, h => by
    rw [noOwn] at h; simp only [Bool.and_eq_true, Bool.not_eq_true'] at h
    rw [frz, frzL_id xs h.2, h.1]
  | .dic m _ xs, h => by
    rw [noOwn] at h; simp only [Bool.and_eq_true, Bool.not_eq_true'] at h
    rw [frz, frzL_id xs h.2, h.1]
  | .dit m _ xs, h => by
    rw [noOwn] at h; simp only [Bool.and_eq_true, Bool.not_eq_true'] at h
    rw [frz, frzL_id xs h.2, h.1]
  | .obj m _ _ xs, h => by
    rw [noOwn] at h; simp only [Bool.and_eq_true, Bool.not_eq_true'] at h
    rw [frz, frzL_id xs h.2, h.1]
  | .opq, _ => rfl
theorem frzL_id : ∀ d : List D, noOwnL d = true → frzL d = d
  | [], _ => rfl
  | x :: xs, h => by
    rw [noOwnL] at h; simp only [Bool.and_eq_true] at h
    rw [frzL, frz_id x h.1, frzL_id xs h.2]
end

/-- a class of the text: its address and the names of its attributes -/
structure CI where
  name : Str
  addr : Addr
  fields : List Str
/-- the classes; the tables of code objects of defs that make lambdas, with the lambdas' name -/
structure Cs where
  cl : List CI
  tb : List (Addr × Str)
instance : Membership CI Cs := ⟨fun cs ci => ci ∈ cs.cl⟩
/-- what the layer writes -/
def Mu : HO → Prop
  | .lst _ => True
  | .dK _ => True
  | .dT _ => True
  | .ins _ _ _ => True
  | _ => False
theorem Mu.mut {o : HO} (h : Mu o) : Mut (some o) := by
  unfold Mu at h
  split at h
  · exact True.intro
  · exact True.intro
  · exact True.intro
  · exact True.intro
  · exact h.elim
/-- no table -/
abbrev NT (o : HO) : Prop := ∀ ps, o ≠ .tbl ps
def CsOk (K : PySem.W.Frag) (cs : Cs) : Prop := ∀ ci ∈ cs, Cls K ci.addr ∧ ∀ f ∈ ci.fields, NoAttr K ci.addr f

/-- a list of the text's own constants -/
def KLs (K : PySem.W.Frag) (a : Addr) (xs : List V) : Prop :=
  ∃ (o : Obj) (its : Array Value) (n : Nat), K.lookup a = some o ∧ o.cls = .type "list" ∧ o.dict = none ∧ o.data = .seq its n ∧ its.size ≤ sizeLine ∧ Vals xs its.toList

mutual
/-- v is the datum d in H; Z: what is never written again; F: the marked objects -/
def R (K : PySem.W.Frag) (cs : Cs) (H : Hp) (Z : Addr → Prop) : D → V → List Addr → Prop
  | .non, v, F => v = .non ∧ F = []
  | .bl b, v, F => v = .bl b ∧ F = []
  | .int i, v, F => v = .int i ∧ F = []
  | .str x, v, F => v = .str x ∧ F = []
  | .tup xs, v, F => ∃ a vs, v = .ref a ∧ SqT K H a vs ∧ RL K cs H Z xs vs F
  | .lst true xs, v, F => ∃ a vs F', v = .ref a ∧ H a = some (.lst vs) ∧ RL K cs H Z xs vs F' ∧ F = a :: F'
  | .lst false xs, v, F => ∃ a vs, v = .ref a ∧ ((Rd H a (.lst vs) ∧ Z a) ∨ KLs K a vs) ∧ RL K cs H Z xs vs [] ∧ F = []
  | .dic true ks xs, v, F => ∃ a vs F', v = .ref a ∧ H a = some (.dK (ks.zip vs)) ∧ ks.length = xs.length ∧ RL K cs H Z xs vs F' ∧ F = a :: F'
  | .dic false ks xs, v, F => ∃ a vs, v = .ref a ∧ H a = some (.dK (ks.zip vs)) ∧ Z a ∧ ks.length = xs.length ∧ RL K cs H Z xs vs [] ∧ F = []
  | .dit true ks xs, v, F => ∃ a vs F', v = .ref a ∧ H a = some (.dT (ks.zip vs)) ∧ ks.length = xs.length ∧ RL K cs H Z xs vs F' ∧ F = a :: F'
  | .dit false ks xs, v, F => ∃ a vs, v = .ref a ∧ H a = some (.dT (ks.zip vs)) ∧ Z a ∧ ks.length = xs.length ∧ RL K cs H Z xs vs [] ∧ F = []
  | .obj true c ns xs, v, F => ∃ a dx ci vs F', v = .ref a ∧ ci ∈ cs ∧ ci.name = c ∧ (∀ n ∈ ns, n ∈ ci.fields) ∧ H a = some (.ins ci.addr dx (ns.zip vs)) ∧ ns.length = xs.length ∧ RL K cs H Z xs vs F' ∧ F = a :: F'
  | .obj false c ns xs, v, F => ∃ a dx ci vs, v = .ref a ∧ ci ∈ cs ∧ ci.name = c ∧ (∀ n ∈ ns, n ∈ ci.fields) ∧ H a = some (.ins ci.addr dx (ns.zip vs)) ∧ Z a ∧ ns.length = xs.length ∧ RL K cs H Z xs vs [] ∧ F = []
  | .opq, _, F => F = []
def RL (K : PySem.W.Frag) (cs : Cs) (H : Hp) (Z : Addr → Prop) : List D → List V → List Addr → Prop
  | [], vs, F => vs = [] ∧ F = []
  | x :: xs, vs, F => ∃ v vs' F1 F2, vs = v :: vs' ∧ R K cs H Z x v F1 ∧ RL K cs H Z xs vs' F2 ∧ F = F1 ++ F2
end
section
variable {K : PySem.W.Frag} {cs : Cs} {H H' : Hp} {Z Z' : Addr → Prop}
theorem not_mut_tup {xs : List V} : ¬ Mut (some (.tup xs)) := fun h => h
theorem not_mut_frz {o : Obj} {u : HO} : ¬ Mut (some (.frz o u)) := fun h => h
theorem rd_kp {a : Addr} {u : HO} (h : Rd H a u) (nu : NT u) (k : ∀ o, H a = some o → NT o → H' a = some o) : Rd H' a u := by
  rcases h with h | ⟨o, h⟩
  · exact .inl (k _ h nu)
  · exact .inr ⟨o, k _ h fun _ z => by cases z⟩
theorem sqt_kp {a : Addr} {vs : List V} (h : SqT K H a vs) (k : ∀ a o, H a = some o → NT o → ¬ Mut (some o) → H' a = some o) : SqT K H' a vs := by
  rcases h with (h | ⟨o, h⟩) | h
  · exact .inl (.inl (k _ _ h (fun _ z => by cases z) not_mut_tup))
  · exact .inl (.inr ⟨o, k _ _ h (fun _ z => by cases z) not_mut_frz⟩)
  · exact .inr h
mutual
theorem R.keep (hz : ∀ a, Z a → Z' a) : ∀ (d : D) (v : V) (F : List Addr), (∀ a o, H a = some o → NT o → (a ∈ F ∨ Z a ∨ ¬ Mut (some o)) → H' a = some o) → R K cs H Z d v F → R K cs H' Z' d v F
  | .non, _, _, _, h => h
  | .bl _, _, _, _, h => h
  | .int _, _, _, _, h => h
  | .str _, _, _, _, h => h
  | .tup xs, v, F, k, h => by
    obtain ⟨a, vs, e, t, r⟩ := h
    exact ⟨a, vs, e, sqt_kp t fun a o e n m => k a o e n (.inr (.inr m)), RL.keep hz xs vs F k r⟩
  | .lst true xs, v, F, k, h => by
    obtain ⟨a, vs, F', e, t, r, rfl⟩ := h
    exact ⟨a, vs, F', e, k a _ t (fun _ z => by cases z) (.inl List.mem_cons_self), RL.keep hz xs vs F' (fun b o e n q => k b o e n (q.imp_left (List.mem_cons_of_mem _))) r, rfl⟩
  | .lst false xs, v, F, k, h => by
    obtain ⟨a, vs, e, t, r, rfl⟩ := h
    refine ⟨a, vs, e, ?_, RL.keep hz xs vs [] k r, rfl⟩
    rcases t with ⟨t, z⟩ | t
    · exact .inl ⟨rd_kp t (fun _ z => by cases z) fun o e n => k a o e n (.inr (.inl z)), hz a z⟩
    · exact .inr t
  | .dic true ks xs, v, F, k, h => by
    obtain ⟨a, vs, F', e, t, l, r, rfl⟩ := h
    exact ⟨a, vs, F', e, k a _ t (fun _ z => by cases z) (.inl List.mem_cons_self), l, RL.keep hz xs vs F' (fun b o e n q => k b o e n (q.imp_left (List.mem_cons_of_mem _))) r, rfl⟩
  | .dic false ks xs, v, F, k, h => by
    obtain ⟨a, vs, e, t, z, l, r, rfl⟩ := h
    exact ⟨a, vs, e, k a _ t (fun _ z => by cases z) (.inr (.inl z)), hz a z, l, RL.keep hz xs vs [] k r, rfl⟩
  | .dit true ks xs, v, F, k, h => by
    obtain ⟨a, vs, F', e, t, l, r, rfl⟩ := h
    exact ⟨a, vs, F', e, k a _ t (fun _ z => by cases z) (.inl List.mem_cons_self), l, RL.keep hz xs vs F' (fun b o e n q => k b o e n (q.imp_left (List.mem_cons_of_mem _))) r, rfl⟩
  | .dit false ks xs, v, F, k, h => by
    obtain ⟨a, vs, e, t, z, l, r, rfl⟩ := h
    exact ⟨a, vs, e, k a _ t (fun _ z => by cases z) (.inr (.inl z)), hz a z, l, RL.keep hz xs vs [] k r, rfl⟩
  | .obj true c ns xs, v, F, k, h => by
    obtain ⟨a, dx, ci, vs, F', e, m, n, f, t, l, r, rfl⟩ := h
    exact ⟨a, dx, ci, vs, F', e, m, n, f, k a _ t (fun _ z => by cases z) (.inl List.mem_cons_self), l, RL.keep hz xs vs F' (fun b o e n q => k b o e n (q.imp_left (List.mem_cons_of_mem _))) r, rfl⟩
  | .obj false c ns xs, v, F, k, h => by
    obtain ⟨a, dx, ci, vs, e, m, n, f, t, z, l, r, rfl⟩ := h
    exact ⟨a, dx, ci, vs, e, m, n, f, k a _ t (fun _ z => by cases z) (.inr (.inl z)), hz a z, l, RL.keep hz xs vs [] k r, rfl⟩
  | .opq, _, _, _, h => h
theorem RL.keep (hz : ∀ a, Z a → Z' a) : ∀ (d : List D) (v : List V) (F : List Addr), (∀ a o, H a = some o → NT o → (a ∈ F ∨ Z a ∨ ¬ Mut (some o)) → H' a = some o) → RL K cs H Z d v F → RL K cs H' Z' d v F
  | [], _, _, _, h => h
  | x :: xs, v, F, k, h => by
    obtain ⟨v, vs', F1, F2, e, r1, r2, rfl⟩ := h
    exact ⟨v, vs', F1, F2, e, R.keep hz x v F1 (fun b o e n q => k b o e n (q.imp_left fun m => List.mem_append_left _ m)) r1, RL.keep hz xs vs' F2 (fun b o e n q => k b o e n (q.imp_left fun m => List.mem_append_right _ m)) r2, rfl⟩
end
mutual
theorem R.alloc : ∀ (d : D) (v : V) (F : List Addr), R K cs H Z d v F → ∀ a ∈ F, ∃ o, H a = some o
  | .non, _, _, h, a, m => by rw [h.2] at m; cases m
  | .bl _, _, _, h, a, m => by rw [h.2] at m; cases m
  | .int _, _, _, h, a, m => by rw [h.2] at m; cases m
  | .str _, _, _, h, a, m => by rw [h.2] at m; cases m
  | .tup xs, v, F, h, a, m => by
    obtain ⟨_, vs, e, t, r⟩ := h
    exact RL.alloc xs vs F r a m
  | .lst true xs, v, F, h, a, m => by
    obtain ⟨b, vs, F', e, t, r, rfl⟩ := h
    rcases List.mem_cons.mp m with rfl | m
    · exact ⟨_, t⟩
    · exact RL.alloc xs vs F' r a m
  | .lst false xs, v, F, h, a, m => by
    obtain ⟨b, vs, e, t, r, rfl⟩ := h
    cases m
  | .dic true ks xs, v, F, h, a, m => by
    obtain ⟨b, vs, F', e, t, l, r, rfl⟩ := h
    rcases List.mem_cons.mp m with rfl | m
    · exact ⟨_, t⟩
    · exact RL.alloc xs vs F' r a m
  | .dic false ks xs, v, F, h, a, m => by
    obtain ⟨b, vs, e, t, z, l, r, rfl⟩ := h
    cases m
  | .dit true ks xs, v, F, h, a, m => by
    obtain ⟨b, vs, F', e, t, l, r, rfl⟩ := h
    rcases List.mem_cons.mp m with rfl | m
    · exact ⟨_, t⟩
    · exact RL.alloc xs vs F' r a m
  | .dit false ks xs, v, F, h, a, m => by
    obtain ⟨b, vs, e, t, z, l, r, rfl⟩ := h
    cases m
  | .obj true c ns xs, v, F, h, a, m => by
    obtain ⟨b, dx, ci, vs, F', e, _, _, _, t, l, r, rfl⟩ := h
    rcases List.mem_cons.mp m with rfl | m
    · exact ⟨_, t⟩
    · exact RL.alloc xs vs F' r a m
  | .obj false c ns xs, v, F, h, a, m => by
    obtain ⟨b, dx, ci, vs, e, _, _, _, t, z, l, r, rfl⟩ := h
    cases m
  | .opq, v, F, h, a, m => by
    have h : F = [] := h
    rw [h] at m; cases m
theorem RL.alloc : ∀ (d : List D) (v : List V) (F : List Addr), RL K cs H Z d v F → ∀ a ∈ F, ∃ o, H a = some o
  | [], _, _, h, a, m => by rw [h.2] at m; cases m
  | x :: xs, v, F, h, a, m => by
    obtain ⟨v, vs', F1, F2, e, r1, r2, rfl⟩ := h
    rcases List.mem_append.mp m with m | m
    · exact R.alloc x v F1 r1 a m
    · exact RL.alloc xs vs' F2 r2 a m
end
mutual
theorem R.allocM : ∀ (d : D) (v : V) (F : List Addr), R K cs H Z d v F → ∀ a ∈ F, ∃ o, H a = some o ∧ Mu o
  | .non, _, _, h, a, m => by rw [h.2] at m; cases m
  | .bl _, _, _, h, a, m => by rw [h.2] at m; cases m
  | .int _, _, _, h, a, m => by rw [h.2] at m; cases m
  | .str _, _, _, h, a, m => by rw [h.2] at m; cases m
  | .tup xs, v, F, h, a, m => by
    obtain ⟨_, vs, e, t, r⟩ := h
    exact RL.allocM xs vs F r a m
  | .lst true xs, v, F, h, a, m => by
    obtain ⟨b, vs, F', e, t, r, rfl⟩ := h
    rcases List.mem_cons.mp m with rfl | m
    · exact ⟨_, t, trivial⟩
    · exact RL.allocM xs vs F' r a m
  | .lst false xs, v, F, h, a, m => by
    obtain ⟨b, vs, e, t, r, rfl⟩ := h
    cases m
  | .dic true ks xs, v, F, h, a, m => by
    obtain ⟨b, vs, F', e, t, l, r, rfl⟩ := h
    rcases List.mem_cons.mp m with rfl | m
    · exact ⟨_, t, trivial⟩
    · exact RL.allocM xs vs F' r a m
  | .dic false ks xs, v, F, h, a, m => by
    obtain ⟨b, vs, e, t, z, l, r, rfl⟩ := h
    cases m
  | .dit true ks xs, v, F, h, a, m => by
    obtain ⟨b, vs, F', e, t, l, r, rfl⟩ := h
    rcases List.mem_cons.mp m with rfl | m
    · exact ⟨_, t, trivial⟩
    · exact RL.allocM xs vs F' r a m
  | .dit false ks xs, v, F, h, a, m => by
    obtain ⟨b, vs, e, t, z, l, r, rfl⟩ := h
    cases m
  | .obj true c ns xs, v, F, h, a, m => by
    obtain ⟨b, dx, ci, vs, F', e, _, _, _, t, l, r, rfl⟩ := h
    rcases List.mem_cons.mp m with rfl | m
    · exact ⟨_, t, trivial⟩
    · exact RL.allocM xs vs F' r a m
  | .obj false c ns xs, v, F, h, a, m => by
    obtain ⟨b, dx, ci, vs, e, _, _, _, t, z, l, r, rfl⟩ := h
    cases m
  | .opq, v, F, h, a, m => by
    have h : F = [] := h
    rw [h] at m; cases m
theorem RL.allocM : ∀ (d : List D) (v : List V) (F : List Addr), RL K cs H Z d v F → ∀ a ∈ F, ∃ o, H a = some o ∧ Mu o
  | [], _, _, h, a, m => by rw [h.2] at m; cases m
  | x :: xs, v, F, h, a, m => by
    obtain ⟨v, vs', F1, F2, e, r1, r2, rfl⟩ := h
    rcases List.mem_append.mp m with m | m
    · exact R.allocM x v F1 r1 a m
    · exact RL.allocM xs vs' F2 r2 a m
end
mutual
theorem R.fr (hz : ∀ a, Z a → Z' a) : ∀ (d : D) (v : V) (F : List Addr), (∀ a ∈ F, Z' a) → R K cs H Z d v F → R K cs H Z' (frz d) v []
  | .non, _, _, _, h => ⟨h.1, rfl⟩
  | .bl _, _, _, _, h => ⟨h.1, rfl⟩
  | .int _, _, _, _, h => ⟨h.1, rfl⟩
  | .str _, _, _, _, h => ⟨h.1, rfl⟩
  | .tup xs, v, F, k, h => by
    obtain ⟨a, vs, e, t, r⟩ := h
    exact ⟨a, vs, e, t, RL.fr hz xs vs F k r⟩
  | .lst true xs, v, F, k, h => by
    obtain ⟨a, vs, F', e, t, r, rfl⟩ := h
    exact ⟨a, vs, e, .inl ⟨.inl t, k a List.mem_cons_self⟩, RL.fr hz xs vs F' (fun b m => k b (List.mem_cons_of_mem _ m)) r, rfl⟩
  | .lst false xs, v, F, k, h => by
    obtain ⟨a, vs, e, t, r, rfl⟩ := h
    exact ⟨a, vs, e, t.imp_left fun t => ⟨t.1, hz a t.2⟩, RL.fr hz xs vs [] k r, rfl⟩
  | .dic true ks xs, v, F, k, h => by
    obtain ⟨a, vs, F', e, t, l, r, rfl⟩ := h
    exact ⟨a, vs, e, t, k a List.mem_cons_self, by rw [l, frzL_map, List.length_map], RL.fr hz xs vs F' (fun b m => k b (List.mem_cons_of_mem _ m)) r, rfl⟩
  | .dic false ks xs, v, F, k, h => by
    obtain ⟨a, vs, e, t, z, l, r, rfl⟩ := h
    exact ⟨a, vs, e, t, hz a z, by rw [l, frzL_map, List.length_map], RL.fr hz xs vs [] k r, rfl⟩
  | .dit true ks xs, v, F, k, h => by
    obtain ⟨a, vs, F', e, t, l, r, rfl⟩ := h
    exact ⟨a, vs, e, t, k a List.mem_cons_self, by rw [l, frzL_map, List.length_map], RL.fr hz xs vs F' (fun b m => k b (List.mem_cons_of_mem _ m)) r, rfl⟩
  | .dit false ks xs, v, F, k, h => by
    obtain ⟨a, vs, e, t, z, l, r, rfl⟩ := h
    exact ⟨a, vs, e, t, hz a z, by rw [l, frzL_map, List.length_map], RL.fr hz xs vs [] k r, rfl⟩
  | .obj true c ns xs, v, F, k, h => by
    obtain ⟨a, dx, ci, vs, F', e, m, n, f, t, l, r, rfl⟩ := h
    exact ⟨a, dx, ci, vs, e, m, n, f, t, k a List.mem_cons_self, by rw [l, frzL_map, List.length_map], RL.fr hz xs vs F' (fun b m => k b (List.mem_cons_of_mem _ m)) r, rfl⟩
  | .obj false c ns xs, v, F, k, h => by
    obtain ⟨a, dx, ci, vs, e, m, n, f, t, z, l, r, rfl⟩ := h
    exact ⟨a, dx, ci, vs, e, m, n, f, t, hz a z, by rw [l, frzL_map, List.length_map], RL.fr hz xs vs [] k r, rfl⟩
  | .opq, _, _, _, _ => rfl
theorem RL.fr (hz : ∀ a, Z a → Z' a) : ∀ (d : List D) (v : List V) (F : List Addr), (∀ a ∈ F, Z' a) → RL K cs H Z d v F → RL K cs H Z' (frzL d) v []
  | [], _, _, _, h => ⟨h.1, rfl⟩
  | x :: xs, v, F, k, h => by
    obtain ⟨v, vs', F1, F2, e, r1, r2, rfl⟩ := h
    exact ⟨v, vs', [], [], e, R.fr hz x v F1 (fun b m => k b (List.mem_append_left _ m)) r1, RL.fr hz xs vs' F2 (fun b m => k b (List.mem_append_right _ m)) r2, rfl⟩
end
mutual
theorem R.noF : ∀ (d : D) (v : V) (F : List Addr), noOwn d = true → R K cs H Z d v F → F = []
  | .non, _, _, _, h => h.2
  | .bl _, _, _, _, h => h.2
  | .int _, _, _, _, h => h.2
  | .str _, _, _, _, h => h.2
  | .tup xs, v, F, q, h => by
    obtain ⟨a, vs, e, t, r⟩ := h
    exact RL.noF xs vs F q r
  | .lst true xs, v, F, q, h => by rw [noOwn] at q; cases q
  | .lst false xs, v, F, q, h => by obtain ⟨a, vs, e, t, r, rfl⟩ := h; rfl
  | .dic true _ xs, v, F, q, h => by rw [noOwn] at q; cases q
  | .dic false _ xs, v, F, q, h => by obtain ⟨a, vs, e, t, z, l, r, rfl⟩ := h; rfl
  | .dit true _ xs, v, F, q, h => by rw [noOwn] at q; cases q
  | .dit false _ xs, v, F, q, h => by obtain ⟨a, vs, e, t, z, l, r, rfl⟩ := h; rfl
  | .obj true _ _ xs, v, F, q, h => by rw [noOwn] at q; cases q
  | .obj false _ _ xs, v, F, q, h => by obtain ⟨a, dx, ci, vs, e, _, _, _, t, z, l, r, rfl⟩ := h; rfl
  | .opq, _, _, _, h => h
theorem RL.noF : ∀ (d : List D) (v : List V) (F : List Addr), noOwnL d = true → RL K cs H Z d v F → F = []
  | [], _, _, _, h => h.2
  | x :: xs, v, F, q, h => by
    obtain ⟨v, vs', F1, F2, e, r1, r2, rfl⟩ := h
    rw [noOwnL] at q; simp only [Bool.and_eq_true] at q
    rw [R.noF x v F1 q.1 r1, RL.noF xs vs' F2 q.2 r2]; rfl
end
mutual
theorem R.anyZ : ∀ (d : D) (v : V) (F : List Addr), alo d = true → R K cs H Z d v F → R K cs H Z' d v F
  | .non, _, _, _, h => h
  | .bl _, _, _, _, h => h
  | .int _, _, _, _, h => h
  | .str _, _, _, _, h => h
  | .tup xs, v, F, q, h => by
    obtain ⟨a, vs, e, t, r⟩ := h
    exact ⟨a, vs, e, t, RL.anyZ xs vs F q r⟩
  | .lst true xs, v, F, q, h => by
    obtain ⟨a, vs, F', e, t, r, rfl⟩ := h
    exact ⟨a, vs, F', e, t, RL.anyZ xs vs F' (by simpa [alo] using q) r, rfl⟩
  | .lst false xs, v, F, q, h => by rw [alo] at q; cases q
  | .dic true ks xs, v, F, q, h => by
    obtain ⟨a, vs, F', e, t, l, r, rfl⟩ := h
    exact ⟨a, vs, F', e, t, l, RL.anyZ xs vs F' (by simpa [alo] using q) r, rfl⟩
  | .dic false _ xs, v, F, q, h => by rw [alo] at q; cases q
  | .dit true ks xs, v, F, q, h => by
    obtain ⟨a, vs, F', e, t, l, r, rfl⟩ := h
    exact ⟨a, vs, F', e, t, l, RL.anyZ xs vs F' (by simpa [alo] using q) r, rfl⟩
  | .dit false _ xs, v, F, q, h => by rw [alo] at q; cases q
  | .obj true c ns xs, v, F, q, h => by
    obtain ⟨a, dx, ci, vs, F', e, m, n, f, t, l, r, rfl⟩ := h
    exact ⟨a, dx, ci, vs, F', e, m, n, f, t, l, RL.anyZ xs vs F' (by simpa [alo] using q) r, rfl⟩
  | .obj false _ _ xs, v, F, q, h => by rw [alo] at q; cases q
  | .opq, _, _, _, h => h
theorem RL.anyZ : ∀ (d : List D) (v : List V) (F : List Addr), aloL d = true → RL K cs H Z d v F → RL K cs H Z' d v F
  | [], _, _, _, h => h
  | x :: xs, v, F, q, h => by
    obtain ⟨v, vs', F1, F2, e, r1, r2, rfl⟩ := h
    rw [aloL] at q; simp only [Bool.and_eq_true] at q
    exact ⟨v, vs', F1, F2, e, R.anyZ x v F1 q.1 r1, RL.anyZ xs vs' F2 q.2 r2, rfl⟩
end
theorem RL.len : ∀ {d : List D} {v : List V} {F : List Addr}, RL K cs H Z d v F → v.length = d.length
  | [], _, _, h => by rw [h.1]; rfl
  | x :: xs, v, F, h => by
    obtain ⟨v, vs', F1, F2, rfl, r1, r2, rfl⟩ := h
    simp [RL.len r2]
theorem RL.get : ∀ {d : List D} {v : List V} {F : List Addr} {i : Nat} {x : D}, RL K cs H Z d v F → d[i]? = some x → ∃ y G, v[i]? = some y ∧ R K cs H Z x y G ∧ ∀ a ∈ G, a ∈ F
  | [], _, _, i, x, h, e => by simp at e
  | x :: xs, v, F, 0, y, h, e => by
    obtain ⟨v, vs', F1, F2, rfl, r1, r2, rfl⟩ := h
    simp at e; subst e
    exact ⟨v, F1, rfl, r1, fun a m => List.mem_append_left _ m⟩
  | x :: xs, v, F, i + 1, y, h, e => by
    obtain ⟨v, vs', F1, F2, rfl, r1, r2, rfl⟩ := h
    obtain ⟨z, G, h1, h2, h3⟩ := RL.get (i := i) r2 (by simpa using e)
    exact ⟨z, G, by simpa using h1, h2, fun a m => List.mem_append_right _ (h3 a m)⟩
theorem RL.app : ∀ {d e : List D} {v w : List V} {F G : List Addr}, RL K cs H Z d v F → RL K cs H Z e w G → RL K cs H Z (d ++ e) (v ++ w) (F ++ G)
  | [], e, v, w, F, G, h, r => by rw [h.1, h.2]; exact r
  | x :: xs, e, v, w, F, G, h, r => by
    obtain ⟨v, vs', F1, F2, rfl, r1, r2, rfl⟩ := h
    exact ⟨v, vs' ++ w, F1, F2 ++ G, rfl, r1, RL.app r2 r, by rw [List.append_assoc]⟩
theorem RL.one {d : D} {v : V} {F : List Addr} (h : R K cs H Z d v F) : RL K cs H Z [d] [v] F := ⟨v, [], F, [], rfl, h, ⟨rfl, rfl⟩, by simp⟩
/-- a sub-list of a list without marks -/
theorem RL.of_get : ∀ {d : List D} {v : List V}, d.length = v.length → (∀ (i : Nat) x y, d[i]? = some x → v[i]? = some y → R K cs H Z x y []) → RL K cs H Z d v []
  | [], [], _, _ => ⟨rfl, rfl⟩
  | x :: xs, [], l, _ => by simp at l
  | [], y :: ys, l, _ => by simp at l
  | x :: xs, y :: ys, l, h => ⟨y, ys, [], [], rfl, h 0 x y rfl rfl, RL.of_get (by simpa using l) fun i a b e1 e2 => h (i + 1) a b (by simpa using e1) (by simpa using e2), rfl⟩
theorem RL.get0 {d : List D} {v : List V} {i : Nat} {x : D} {y : V} (h : RL K cs H Z d v []) (e1 : d[i]? = some x) (e2 : v[i]? = some y) : R K cs H Z x y [] := by
  obtain ⟨z, G, a, b, c⟩ := RL.get h e1
  rw [e2] at a; cases a
  have : G = [] := List.eq_nil_iff_forall_not_mem.mpr fun a m => absurd (c a m) (by simp)
  rw [this] at b; exact b
end
end VL
set_option maxHeartbeats 1000000
namespace VL
open PySem L2

abbrev Env := List (Option D)
abbrev TED := Env → (D → Prop) → Prop
abbrev TTD := Env → (Bool → Prop) → Prop
abbrev TAD := Env → (List D → Prop) → Prop
structure EndsD where
  nx : Env → Prop
  rt : D → Env → Prop
  bk : Env → Prop := fun _ => False
  ct : Env → Prop := fun _ => False
abbrev TSD := EndsD → Env → Prop

/-- the entry: the heap, what is frozen, what may be written, the slots that stay, what is kept besides -/
structure En where
  H0 : Hp
  Z0 : Addr → Prop
  W : Addr → Prop
  io : List (Nat × V)
  gs : List (D × V)
open LamX in
theorem tabs_keep {T : List (Addr × Str)} {H H' : Hp} (t : Tabs T H) (k : ∀ b o, H b = some o → ¬ Mu o → H' b = some o) : Tabs T H' := by
  intro p hp
  obtain ⟨ps, h1, h2, h3⟩ := t p hp
  refine ⟨ps, k _ _ h1 (fun z => z), h2, fun pos cv hc => ?_⟩
  obtain ⟨c, e1, e2⟩ := h3 pos cv hc
  exact ⟨c, e1, k _ _ e2 (fun z => z)⟩
/-- all stays, but that tables may grow -/
structure Sm (cs : Cs) (H H' : Hp) : Prop where
  keep : ∀ a o, H a = some o → NT o → H' a = some o
  there : ∀ a o, H a = some o → ∃ o', H' a = some o'
  tabs : LamX.Tabs cs.tb H → LamX.Tabs cs.tb H'
theorem Sm.at {cs : Cs} {H H' : Hp} (s : Sm cs H H') {a : Addr} {o : HO} (h : H a = some o) (n : NT o := by intro _ z; cases z) : H' a = some o := s.keep a o h n
theorem Sm.of {cs : Cs} {H H' : Hp} (s : Same H H') : Sm cs H H' := ⟨fun a o h _ => s a o h, fun a o h => ⟨o, s a o h⟩, fun t => t.ext s⟩
theorem Sm.refl {cs : Cs} (H : Hp) : Sm cs H H := .of (Same.refl H)
theorem Sm.trans {cs : Cs} {H H1 H2 : Hp} (a : Sm cs H H1) (b : Sm cs H1 H2) : Sm cs H H2 :=
  ⟨fun c o h n => b.keep c o (a.keep c o h n) n, fun c o h => let ⟨o', h'⟩ := a.there c o h; b.there c o' h', fun t => b.tabs (a.tabs t)⟩
theorem Sm.free {cs : Cs} {H H' : Hp} (s : Sm cs H H') {a : Addr} (h : H' a = none) : H a = none := by
  cases e : H a with
  | none => rfl
  | some o =>
    obtain ⟨o', w⟩ := s.there a o e
    rw [h] at w; cases w
structure Ext (cs : Cs) (H H' : Hp) (Z Z' : Addr → Prop) : Prop where
  same : Sm cs H H'
  up : ∀ a, Z a → Z' a
  new : ∀ a, Z' a → Z a ∨ (H a = none ∧ ∃ o, H' a = some o)
theorem Ext.refl {cs : Cs} (H : Hp) (Z : Addr → Prop) : Ext cs H H Z Z := ⟨Sm.refl H, fun _ h => h, fun _ h => .inl h⟩
theorem Ext.of {cs : Cs} {H H' : Hp} {Z : Addr → Prop} (s : Sm cs H H') : Ext cs H H' Z Z := ⟨s, fun _ h => h, fun _ h => .inl h⟩
theorem Ext.trans {cs : Cs} {H H1 H2 : Hp} {Z Z1 Z2 : Addr → Prop} (a : Ext cs H H1 Z Z1) (b : Ext cs H1 H2 Z1 Z2) : Ext cs H H2 Z Z2 := by
  refine ⟨a.same.trans b.same, fun c h => b.up c (a.up c h), fun c h => ?_⟩
  rcases b.new c h with h | ⟨h, o, ho⟩
  · rcases a.new c h with h | ⟨h, o, ho⟩
    · exact .inl h
    · exact .inr ⟨h, b.same.there _ o ho⟩
  · exact .inr ⟨a.same.free h, o, ho⟩
theorem same_upd {cs : Cs} {H : Hp} {p : Addr} {o : HO} (h : H p = none) : Sm cs H (upd H p o) := .of fun b u e => by rw [upd_ne (ne_of_none e h)]; exact e

structure Rel (K : PySem.W.Frag) (cs : Cs) (e : En) (H : Hp) (Z : Addr → Prop) (σ : St) (env : Env) (Fs : Nat → List Addr) : Prop where
  slot : ∀ (i : Nat) (d : D), env[i]? = some (some d) → ∃ v, σ[i]? = some (some v) ∧ R K cs H Z d v (Fs i)
  off : ∀ i : Nat, (∀ d, env[i]? ≠ some (some d)) → Fs i = []
  nd : ∀ i, (Fs i).Nodup
  dj : ∀ i j a, i ≠ j → a ∈ Fs i → a ∉ Fs j
  dz : ∀ i a, a ∈ Fs i → ¬ Z a
  za : ∀ a, Z a → ∃ o, H a = some o
  own : ∀ i a, a ∈ Fs i → e.W a ∨ e.H0 a = none
  fr : ∀ a o, e.H0 a = some o → NT o → ¬ e.W a → H a = some o
  th : ∀ a o, e.H0 a = some o → e.W a ∨ ∃ o', H a = some o'
  tb : LamX.Tabs cs.tb H
  z0 : ∀ a, e.Z0 a → Z a
  z1 : ∀ a, Z a → e.Z0 a ∨ e.H0 a = none ∨ e.W a
  io : ∀ p ∈ e.io, σ[p.1]? = some (some p.2)
  gs : ∀ p ∈ e.gs, R K cs H Z p.1 p.2 []
  len : σ.length = env.length
section
variable {K : PySem.W.Frag} {cs : Cs} {e : En} {H H' : Hp} {Z Z' : Addr → Prop} {σ : St} {env : Env} {Fs : Nat → List Addr}
theorem R.ext {d : D} {v : V} {F : List Addr} (x : Ext cs H H' Z Z') (h : R K cs H Z d v F) : R K cs H' Z' d v F := R.keep x.up d v F (fun a o e n _ => x.same.keep a o e n) h
theorem RL.ext {d : List D} {v : List V} {F : List Addr} (x : Ext cs H H' Z Z') (h : RL K cs H Z d v F) : RL K cs H' Z' d v F := RL.keep x.up d v F (fun a o e n _ => x.same.keep a o e n) h
theorem Rel.alloc (r : Rel K cs e H Z σ env Fs) {i : Nat} {a : Addr} (h : a ∈ Fs i) : ∃ o, H a = some o := by
  by_cases q : ∃ d, env[i]? = some (some d)
  · obtain ⟨d, q⟩ := q
    obtain ⟨v, _, w⟩ := r.slot i d q
    exact R.alloc d v _ w a h
  · have := r.off i fun d z => q ⟨d, z⟩
    rw [this] at h; cases h
theorem Rel.free0 (r : Rel K cs e H Z σ env Fs) {a : Addr} (h : H a = none) : e.W a ∨ e.H0 a = none := by
  by_cases q : e.W a
  · exact .inl q
  · refine .inr ?_
    cases z : e.H0 a with
    | none => rfl
    | some o =>
      rcases r.th a o z with w | ⟨o', w⟩
      · exact absurd w q
      · rw [h] at w; cases w
theorem Rel.nz (r : Rel K cs e H Z σ env Fs) {a : Addr} (h : H a = none) : ¬ Z a := fun z => by
  obtain ⟨o, q⟩ := r.za a z
  rw [h] at q; cases q
theorem Rel.ext (r : Rel K cs e H Z σ env Fs) (x : Ext cs H H' Z Z') : Rel K cs e H' Z' σ env Fs where
  slot := fun i d h => let ⟨v, a, b⟩ := r.slot i d h; ⟨v, a, b.ext x⟩
  off := r.off
  nd := r.nd
  dj := r.dj
  dz := fun i a m z => by
    rcases x.new a z with z | ⟨z, _⟩
    · exact r.dz i a m z
    · obtain ⟨o, q⟩ := r.alloc m
      rw [z] at q; cases q
  za := fun a z => by
    rcases x.new a z with z | ⟨_, z⟩
    · obtain ⟨o, q⟩ := r.za a z
      exact x.same.there _ o q
    · exact z
  own := r.own
  fr := fun a o h n w => x.same.keep _ _ (r.fr a o h n w) n
  th := fun a o h => (r.th a o h).imp_right fun ⟨o', h'⟩ => x.same.there a o' h'
  tb := x.same.tabs r.tb
  z0 := fun a h => x.up a (r.z0 a h)
  z1 := fun a z => by
    rcases x.new a z with z | ⟨z, _⟩
    · exact r.z1 a z
    · rcases r.free0 z with w | w
      · exact .inr (.inr w)
      · exact .inr (.inl w)
  io := r.io
  gs := fun p m => (r.gs p m).ext x
  len := r.len
end

/-! ### judgements -/
def tOf (K : PySem.W.Frag) (cs : Cs) (t : TED) : TE := fun σ H Q => ∃ e env Z Fs, Rel K cs e H Z σ env Fs ∧ ∃ QD, t env QD ∧ ∀ v H' Z' d F, Ext cs H H' Z Z' → R K cs H' Z' d v F → QD d → Q v H'
def tOfT (K : PySem.W.Frag) (cs : Cs) (t : TED) : TE := fun σ H Q => ∃ e env Z Fs, Rel K cs e H Z σ env Fs ∧ ∃ QD, t env QD ∧
  ∀ v H' Z' d F, Ext cs H H' Z Z' → R K cs H' Z' d v F → F.Nodup → (∀ a ∈ F, H a = none ∧ ¬ Z' a) → QD d → Q v H'
def tOfB (K : PySem.W.Frag) (cs : Cs) (t : TTD) : TT := fun σ H Q => ∃ e env Z Fs, Rel K cs e H Z σ env Fs ∧ ∃ QD, t env QD ∧ ∀ b H' Z', Ext cs H H' Z Z' → QD b → Q b H'
/-- arguments; mv: the slots that are moved -/
def tOfM (K : PySem.W.Frag) (cs : Cs) (mv : List Nat) (t : TAD) : TA := fun σ H Q => ∃ e env Z Fs, Rel K cs e H Z σ env Fs ∧ ∃ QD, t env QD ∧
  ∀ vs H' Z' ds F, Ext cs H H' Z Z' → RL K cs H' Z' ds vs F → F.Nodup → (∀ a ∈ F, ¬ Z' a ∧ (H a = none ∨ ∃ i ∈ mv, a ∈ Fs i)) → QD ds → Q vs H'
/-- arguments that are looked at alone -/
def tOfA (K : PySem.W.Frag) (cs : Cs) (t : TAD) : TA := fun σ H Q => ∃ e env Z Fs, Rel K cs e H Z σ env Fs ∧ ∃ QD, t env QD ∧
  ∀ vs H' Z' ds F, Ext cs H H' Z Z' → RL K cs H' Z' ds vs F → QD ds → Q vs H'
structure VP (X : Cx) (cs : Cs) (e : Expr) (t : TED) : Prop where
  run : PE X e (tOf X.K cs t)
structure VT (X : Cx) (cs : Cs) (e : Expr) (t : TED) : Prop where
  run : PE X e (tOfT X.K cs t)
structure VB (X : Cx) (cs : Cs) (e : Expr) (t : TTD) : Prop where
  run : PT X e (tOfB X.K cs t)
structure VM (X : Cx) (cs : Cs) (mv : List Nat) (es : List Expr) (t : TAD) : Prop where
  run : PA X es (tOfM X.K cs mv t)
structure VAr (X : Cx) (cs : Cs) (es : List Expr) (t : TAD) : Prop where
  run : PA X es (tOfA X.K cs t)

theorem pe_weak {X : Cx} {e : Expr} {t t' : TE} (h : PE X e t) (w : ∀ σ H Q, t' σ H Q → t σ H Q) : PE X e t' := ⟨fun pins s σ H Q I q => h.run pins s σ H Q I (w σ H Q q)⟩
theorem pt_weak {X : Cx} {e : Expr} {t t' : TT} (h : PT X e t) (w : ∀ σ H Q, t' σ H Q → t σ H Q) : PT X e t' := ⟨fun pins s σ H Q I q => h.run pins s σ H Q I (w σ H Q q)⟩
theorem pa_weak {X : Cx} {e : List Expr} {t t' : TA} (h : PA X e t) (w : ∀ σ H Q, t' σ H Q → t σ H Q) : PA X e t' := ⟨fun pos pins s σ H Q I q => h.run pos pins s σ H Q I (w σ H Q q)⟩
theorem ps_weak {X : Cx} {st : Stmt} {t t' : TS} (h : PS X st t) (w : ∀ D σ H, t' D σ H → t D σ H) : PS X st t' := ⟨fun pins s σ H D I q => h.run pins s σ H D I (w D σ H q)⟩
theorem pss_weak {X : Cx} {st : List Stmt} {t t' : TS} (h : PSs X st t) (w : ∀ D σ H, t' D σ H → t D σ H) : PSs X st t' := ⟨fun pins s σ H D I q => h.run pins s σ H D I (w D σ H q)⟩

section
variable {X : Cx} {cs : Cs} {a b c : Expr} {pos : Pos} {ta tb : TED} {es : List Expr}
theorem vp_of {t : TED} (h : VT X cs a t) : VP X cs a t := ⟨pe_weak h.run fun σ H Q ⟨e, env, Z, Fs, r, QD, q, k⟩ => ⟨e, env, Z, Fs, r, QD, q, fun v H' Z' d F x y _ _ z => k v H' Z' d F x y z⟩⟩
def tTk (t : TED) : TED := fun env Q => t env fun d => noOwn d = true ∧ Q d
theorem vt_tk {t : TED} (h : VP X cs a t) : VT X cs a (tTk t) := ⟨pe_weak h.run fun σ H Q ⟨e, env, Z, Fs, r, QD, q, k⟩ => ⟨e, env, Z, Fs, r, _, q, fun v H' Z' d F x y z => by
  have := R.noF d v F z.1 y
  subst this
  exact k v H' Z' d [] x y List.nodup_nil (fun a m => absurd m (by simp)) z.2⟩⟩

/-! ### names, constants -/
def v_ (i : Nat) : TED := fun env Q => ∃ d, env[i]? = some (some d) ∧ Q d
theorem vp_v (i : Nat) {x : Str} {pos : Pos} (hN : X.N[i]? = some x := by rfl) (hv : Vis X.env.scope x := by first | exact Or.inl rfl | exact Or.inr (Or.inl rfl) | exact Or.inr (Or.inr rfl)) (hd : (x == ("__debug__" : Str)) = false := by decide)
    (hcd : (x == ("__classdict__" : Str)) = false := by decide) : VP X cs (.Name x pos) (v_ i) :=
  ⟨pe_weak (pe_var hN hv hd hcd) fun σ H Q ⟨e, env, Z, Fs, r, QD, ⟨d, q, qd⟩, k⟩ => by
    obtain ⟨v, h1, h2⟩ := r.slot i d q
    exact ⟨v, h1, k v H Z d _ (Ext.refl H Z) h2 qd⟩⟩
def c_ (d : D) : TED := fun _ Q => Q d
theorem vt_c {v : V} {d : D} (h : PE X a (tC v)) (hr : ∀ H Z, R X.K cs H Z d v []) : VT X cs a (c_ d) :=
  ⟨pe_weak h fun σ H Q ⟨e, env, Z, Fs, r, QD, q, k⟩ => k v H Z d [] (Ext.refl H Z) (hr H Z) List.nodup_nil (fun a m => absurd m (by simp)) q⟩
theorem vt_int {i j pos} : VT X cs (.Constant (.int i) j pos) (c_ (.int i)) := vt_c pe_int fun _ _ => ⟨rfl, rfl⟩
theorem vt_bl {i j pos} : VT X cs (.Constant (.bool i) j pos) (c_ (.bl i)) := vt_c pe_bl fun _ _ => ⟨rfl, rfl⟩
theorem vt_non {j pos} : VT X cs (.Constant .none j pos) (c_ .non) := vt_c pe_non fun _ _ => ⟨rfl, rfl⟩
theorem vt_str {i j pos} : VT X cs (.Constant (.str i) j pos) (c_ (.str i)) := vt_c pe_str fun _ _ => ⟨rfl, rfl⟩
/-- a module's constant -/
theorem vt_glob {x : Str} {v : V} {u : Value} {d : D} {pos : Pos} (hg : Gl X x) (hm : X.mg x = some u) (r : RelV v u) (hr : ∀ H Z, R X.K cs H Z d v []) (hd : (x == ("__debug__" : Str)) = false := by decide) : VT X cs (.Name x pos) (c_ d) :=
  vt_c (pe_glob hg hm r hd) hr

/-! ### operators -/
/-- an operator's rule, by data -/
def OD (K : PySem.W.Frag) (cs : Cs) (r : R2) (f : D → D → (D → Prop) → Prop) : Prop :=
  ∀ (H : Hp) (Z : Addr → Prop) (Q : VK) (QD : D → Prop) (x y : D) (v w : V) (F G : List Addr), (∀ a, Z a → ∃ o, H a = some o) → R K cs H Z x v F → R K cs H Z y w G → f x y QD →
    (∀ u H' Z' d F', Ext cs H H' Z Z' → R K cs H' Z' d u F' → F'.Nodup → (∀ a ∈ F', H a = none ∧ ¬ Z' a) → QD d → Q u H') → r v w H Q
def op2 (f : D → D → (D → Prop) → Prop) (ta tb : TED) : TED := fun env Q => ta env fun x => tb env fun y => f x y Q
theorem od_te {K : PySem.W.Frag} {r : R2} {f : D → D → (D → Prop) → Prop} (hf : OD K cs r f) : ∀ σ H Q, tOfT K cs (op2 f ta tb) σ H Q → tOp r (tOf K cs ta) (tOf K cs tb) σ H Q := fun σ H Q ⟨e, env, Z, Fs, rl, QD, q, k⟩ =>
  ⟨e, env, Z, Fs, rl, _, q, fun v H1 Z1 d F x1 rv q1 => ⟨e, env, Z1, Fs, rl.ext x1, _, q1, fun w H2 Z2 d2 G x2 rw q2 =>
    hf H2 Z2 Q QD d d2 v w F G ((rl.ext x1).ext x2).za (rv.ext x2) rw q2 fun u H3 Z3 d3 F3 x3 r3 nd fre qd => k u H3 Z3 d3 F3 (x1.trans (x2.trans x3)) r3 nd (fun a m => ⟨(x1.trans x2).same.free (fre a m).1, (fre a m).2⟩) qd⟩⟩
theorem vt_op {op : Operator} {r : R2} {f : D → D → (D → Prop) → Prop} (ho : OpR X (binaryOp op) r) (hf : OD X.K cs r f) (ha : VP X cs a ta) (hb : VP X cs b tb) : VT X cs (.BinOp a op b pos) (op2 f ta tb) :=
  ⟨pe_weak (pe_op ho ha.run hb.run) (od_te hf)⟩
theorem vt_cmp {op : CmpOp} {r : R2} {f : D → D → (D → Prop) → Prop} (ho : OpR X (compareOp op) r) (hf : OD X.K cs r f) (ha : VP X cs a ta) (hb : VP X cs b tb) (hm : behindInMarks op b = false) : VT X cs (.Compare a [op] [b] pos) (op2 f ta tb) :=
  ⟨pe_weak (pe_cmpR ho ha.run hb.run hm) (od_te hf)⟩
/-- a bool as a test -/
def bl_ (t : TED) : TTD := fun env Q => t env fun d => match d with | .bl b => Q b | _ => False
theorem te_bl {K : PySem.W.Frag} {t : TED} : ∀ σ H Q, tOfB K cs (bl_ t) σ H Q → tTest (tOfT K cs t) σ H Q := fun σ H Q ⟨e, env, Z, Fs, rl, QD, q, k⟩ =>
  ⟨e, env, Z, Fs, rl, _, q, fun v H' Z' d F x r _ _ z => by
    cases d with
    | bl b => exact ⟨b, r.1, k b H' Z' x z⟩
    | _ => exact False.elim z⟩
theorem te_bl' {K : PySem.W.Frag} {t : TED} : ∀ σ H Q, tOfB K cs (bl_ t) σ H Q → tTest (tOf K cs t) σ H Q := fun σ H Q ⟨e, env, Z, Fs, rl, QD, q, k⟩ =>
  ⟨e, env, Z, Fs, rl, _, q, fun v H' Z' d F x r z => by
    cases d with
    | bl b => exact ⟨b, r.1, k b H' Z' x z⟩
    | _ => exact False.elim z⟩
theorem vb_cmp {op : CmpOp} {r : R2} {f : D → D → (D → Prop) → Prop} (ho : OpR X (compareOp op) r) (hf : OD X.K cs r f) (ha : VP X cs a ta) (hb : VP X cs b tb) (hm : behindInMarks op b = false) : VB X cs (.Compare a [op] [b] pos) (bl_ (op2 f ta tb)) :=
  ⟨pt_weak (pt_cmpR ho ha.run hb.run hm) fun σ H Q h => by
    have := te_bl σ H Q h
    exact od_te hf σ H _ this⟩
theorem vb_val {t : TED} (h : VP X cs a t) (he : ∀ whole, isTrue a X.env whole = (do let v ← whole; standAt a.pos; holding [v] (truthy v)) := by intro _; rfl) : VB X cs a (bl_ t) :=
  ⟨pt_weak (pt_val h.run he) fun σ H Q q => te_bl' σ H Q q⟩
def not_ (t : TTD) : TTD := fun env Q => t env fun b => Q (!b)
theorem vb_not {t : TTD} (h : VB X cs a t) : VB X cs (.UnaryOp .Not a pos) (not_ t) :=
  ⟨pt_weak (pt_not h.run) fun σ H Q ⟨e, env, Z, Fs, rl, QD, q, k⟩ => ⟨e, env, Z, Fs, rl, _, q, fun b H' Z' x z => k (!b) H' Z' x z⟩⟩
structure VW (X : Cx) (cs : Cs) (e : Expr) (t : TTD) : Prop where
  run : PW X e (tOfB X.K cs t)
theorem VW.vb {t : TTD} (h : VW X cs a t) : VB X cs a t := ⟨h.run.pt⟩
theorem pw_weak {X : Cx} {e : Expr} {t t' : TT} (h : PW X e t) (w : ∀ σ H Q, t' σ H Q → t σ H Q) : PW X e t' := ⟨fun wh pins s σ H Q I q => h.run wh pins s σ H Q I (w σ H Q q)⟩
def and_ (t u : TTD) : TTD := fun env Q => t env fun b => (b = true → u env Q) ∧ (b = false → Q false)
def or_ (t u : TTD) : TTD := fun env Q => t env fun b => (b = true → Q true) ∧ (b = false → u env Q)
variable {t u : TTD} {rest : List Expr}
theorem vw_and1 (h : VB X cs a t) : VW X cs (.BoolOp .And [a] pos) t := ⟨pw_and1 h.run⟩
theorem vw_or1 (h : VB X cs a t) : VW X cs (.BoolOp .Or [a] pos) t := ⟨pw_or1 h.run⟩
theorem vw_and (h : VB X cs a t) (h2 : VW X cs (.BoolOp .And (b :: rest) pos) u) : VW X cs (.BoolOp .And (a :: b :: rest) pos) (and_ t u) :=
  ⟨pw_weak (pw_and h.run h2.run) fun σ H Q ⟨e, env, Z, Fs, rl, QD, q, k⟩ => ⟨e, env, Z, Fs, rl, _, q, fun b H' Z' x z => by
    cases b with
    | true => rw [if_pos rfl]; exact ⟨e, env, Z', Fs, rl.ext x, _, z.1 rfl, fun b H2 Z2 x2 z => k b H2 Z2 (x.trans x2) z⟩
    | false => rw [if_neg Bool.false_ne_true]; exact k false H' Z' x (z.2 rfl)⟩⟩
theorem vw_or (h : VB X cs a t) (h2 : VW X cs (.BoolOp .Or (b :: rest) pos) u) : VW X cs (.BoolOp .Or (a :: b :: rest) pos) (or_ t u) :=
  ⟨pw_weak (pw_or h.run h2.run) fun σ H Q ⟨e, env, Z, Fs, rl, QD, q, k⟩ => ⟨e, env, Z, Fs, rl, _, q, fun b H' Z' x z => by
    cases b with
    | true => rw [if_pos rfl]; exact k true H' Z' x (z.1 rfl)
    | false => rw [if_neg Bool.false_ne_true]; exact ⟨e, env, Z', Fs, rl.ext x, _, z.2 rfl, fun b H2 Z2 x2 z => k b H2 Z2 (x.trans x2) z⟩⟩⟩
/-- and, or, not as values: bools -/
def andv_ (ta tb : TED) : TED := fun env Q => ta env fun d => match d with | .bl b => (b = true → tb env Q) ∧ (b = false → Q (.bl false)) | _ => False
def orv_ (ta tb : TED) : TED := fun env Q => ta env fun d => match d with | .bl b => (b = true → Q (.bl true)) ∧ (b = false → tb env Q) | _ => False
def notv_ (ta : TED) : TED := fun env Q => ta env fun d => match d with | .bl b => Q (.bl (!b)) | _ => False
theorem vp_one {op} (h : VP X cs a ta) : VP X cs (.BoolOp op [a] pos) ta := ⟨pe_one h.run⟩
theorem vp_and (ha : VP X cs a ta) (hb : VP X cs (.BoolOp .And (b :: rest) pos) tb) : VP X cs (.BoolOp .And (a :: b :: rest) pos) (andv_ ta tb) :=
  ⟨pe_weak (pe_and ha.run hb.run) fun σ H Q ⟨e, env, Z, Fs, rl, QD, q, k⟩ => ⟨e, env, Z, Fs, rl, _, q, fun v H' Z' d F x r z => by
    cases d with
    | bl b =>
      refine ⟨b, r.1, ?_⟩
      cases b with
      | true => rw [if_pos rfl]; exact ⟨e, env, Z', Fs, rl.ext x, _, z.1 rfl, fun v H2 Z2 d F x2 r z => k v H2 Z2 d F (x.trans x2) r z⟩
      | false => rw [if_neg Bool.false_ne_true]; exact k _ H' Z' (.bl false) [] x ⟨rfl, rfl⟩ (z.2 rfl)
    | _ => exact False.elim z⟩⟩
theorem vp_or (ha : VP X cs a ta) (hb : VP X cs (.BoolOp .Or (b :: rest) pos) tb) : VP X cs (.BoolOp .Or (a :: b :: rest) pos) (orv_ ta tb) :=
  ⟨pe_weak (pe_or ha.run hb.run) fun σ H Q ⟨e, env, Z, Fs, rl, QD, q, k⟩ => ⟨e, env, Z, Fs, rl, _, q, fun v H' Z' d F x r z => by
    cases d with
    | bl b =>
      refine ⟨b, r.1, ?_⟩
      cases b with
      | true => rw [if_pos rfl]; exact k _ H' Z' (.bl true) [] x ⟨rfl, rfl⟩ (z.1 rfl)
      | false => rw [if_neg Bool.false_ne_true]; exact ⟨e, env, Z', Fs, rl.ext x, _, z.2 rfl, fun v H2 Z2 d F x2 r z => k v H2 Z2 d F (x.trans x2) r z⟩
    | _ => exact False.elim z⟩⟩
theorem vp_not (ha : VP X cs a ta) : VP X cs (.UnaryOp .Not a pos) (notv_ ta) :=
  ⟨pe_weak (pe_not ha.run) fun σ H Q ⟨e, env, Z, Fs, rl, QD, q, k⟩ => ⟨e, env, Z, Fs, rl, _, q, fun v H' Z' d F x r z => by
    cases d with
    | bl b => exact ⟨b, r.1, k _ H' Z' (.bl (!b)) [] x ⟨rfl, rfl⟩ z⟩
    | _ => exact False.elim z⟩⟩
def if_ (t : TTD) (ta tb : TED) : TED := fun env Q => t env fun b => (b = true → ta env Q) ∧ (b = false → tb env Q)
theorem vp_if (hc : VB X cs c t) (ha : VP X cs a ta) (hb : VP X cs b tb) : VP X cs (.IfExp c a b pos) (if_ t ta tb) :=
  ⟨pe_weak (pe_ifExp hc.run ha.run hb.run) fun σ H Q ⟨e, env, Z, Fs, rl, QD, q, k⟩ => ⟨e, env, Z, Fs, rl, _, q, fun b H' Z' x z => by
    cases b with
    | true => rw [if_pos rfl]; exact ⟨e, env, Z', Fs, rl.ext x, _, z.1 rfl, fun v H2 Z2 d F x2 r z => k v H2 Z2 d F (x.trans x2) r z⟩
    | false => rw [if_neg Bool.false_ne_true]; exact ⟨e, env, Z', Fs, rl.ext x, _, z.2 rfl, fun v H2 Z2 d F x2 r z => k v H2 Z2 d F (x.trans x2) r z⟩⟩⟩
def un_ (f : D → (D → Prop) → Prop) (ta : TED) : TED := fun env Q => ta env fun x => f x Q
def dNeg : D → (D → Prop) → Prop | .int i, Q => Q (.int (-i)) | _, _ => False
theorem vt_neg (ha : VP X cs a ta) : VT X cs (.UnaryOp .USub a pos) (un_ dNeg ta) :=
  ⟨pe_weak (pe_un un_neg ha.run) fun σ H Q ⟨e, env, Z, Fs, rl, QD, q, k⟩ => ⟨e, env, Z, Fs, rl, _, q, fun v H' Z' d F x r z => by
    cases d with
    | int i => exact ⟨i, r.1, k _ H' Z' (.int (-i)) [] x ⟨rfl, rfl⟩ List.nodup_nil (fun a m => absurd m (by simp)) z⟩
    | _ => exact False.elim z⟩⟩

/-! ### arguments -/
def nil_ : TAD := fun _ Q => Q []
def cons_ (t : TED) (u : TAD) : TAD := fun env Q => t env fun d => u env fun ds => Q (d :: ds)
theorem va_nil : VAr X cs [] nil_ := ⟨pa_weak pa_nil fun σ H Q ⟨e, env, Z, Fs, rl, QD, q, k⟩ => k [] H Z [] [] (Ext.refl H Z) ⟨rfl, rfl⟩ q⟩
theorem va_cons {u : TAD} (ha : VP X cs a ta) (hr : VAr X cs es u) (hs : starEach (a :: es) X.env = (false, eval a X.env) :: starEach es X.env := by rfl) : VAr X cs (a :: es) (cons_ ta u) :=
  ⟨pa_weak (pa_cons ha.run hr.run hs) fun σ H Q ⟨e, env, Z, Fs, rl, QD, q, k⟩ => ⟨e, env, Z, Fs, rl, _, q, fun v H1 Z1 d F x r q1 => ⟨e, env, Z1, Fs, rl.ext x, _, q1, fun vs H2 Z2 ds G x2 r2 q2 =>
    k (v :: vs) H2 Z2 (d :: ds) (F ++ G) (x.trans x2) ⟨v, vs, F, G, rfl, r.ext x2, r2, rfl⟩ q2⟩⟩⟩
theorem vm_nil : VM X cs [] [] nil_ := ⟨pa_weak pa_nil fun σ H Q ⟨e, env, Z, Fs, rl, QD, q, k⟩ => k [] H Z [] [] (Ext.refl H Z) ⟨rfl, rfl⟩ List.nodup_nil (fun a m => absurd m (by simp)) q⟩
theorem vm_cons {u : TAD} {mv : List Nat} (ha : VT X cs a ta) (hr : VM X cs mv es u) (hs : starEach (a :: es) X.env = (false, eval a X.env) :: starEach es X.env := by rfl) : VM X cs mv (a :: es) (cons_ ta u) :=
  ⟨pa_weak (pa_cons ha.run hr.run hs) fun σ H Q ⟨e, env, Z, Fs, rl, QD, q, k⟩ => ⟨e, env, Z, Fs, rl, _, q, fun v H1 Z1 d F x r nd fre q1 => ⟨e, env, Z1, Fs, rl.ext x, _, q1, fun vs H2 Z2 ds G x2 r2 nd2 fre2 q2 => by
    refine k (v :: vs) H2 Z2 (d :: ds) (F ++ G) (x.trans x2) ⟨v, vs, F, G, rfl, r.ext x2, r2, rfl⟩ (List.nodup_append.mpr ⟨nd, nd2, fun a m b n e => ?_⟩) (fun a m => ?_) q2
    · subst e
      rcases (fre2 a n).2 with z | ⟨i, _, z⟩
      · obtain ⟨o, w⟩ := R.alloc d v F r a m
        rw [z] at w; cases w
      · obtain ⟨o, w⟩ := rl.alloc z
        rw [(fre a m).1] at w; cases w
    · rcases List.mem_append.mp m with m | m
      · refine ⟨fun z => ?_, .inl (fre a m).1⟩
        rcases x2.new a z with z | ⟨z, _⟩
        · exact (fre a m).2 z
        · obtain ⟨o, w⟩ := R.alloc d v F r a m
          rw [z] at w; cases w
      · refine ⟨(fre2 a m).1, ?_⟩
        rcases (fre2 a m).2 with z | z
        · exact .inl (x.same.free z)
        · exact .inr z⟩⟩⟩
/-- a name that is handed away -/
theorem vm_mv (i : Nat) {x : Str} {u : TAD} {mv : List Nat} {p : Pos} (hr : VM X cs mv es u) (hi : i ∉ mv := by decide) (hN : X.N[i]? = some x := by rfl) (hv : Vis X.env.scope x := by first | exact Or.inl rfl | exact Or.inr (Or.inl rfl) | exact Or.inr (Or.inr rfl)) (hd : (x == ("__debug__" : Str)) = false := by decide)
    (hcd : (x == ("__classdict__" : Str)) = false := by decide) (hs : starEach (.Name x p :: es) X.env = (false, eval (.Name x p) X.env) :: starEach es X.env := by rfl) : VM X cs (i :: mv) (.Name x p :: es) (cons_ (v_ i) u) :=
  ⟨pa_weak (pa_cons (pe_var hN hv hd hcd) hr.run hs) fun σ H Q ⟨e, env, Z, Fs, rl, QD, ⟨d, hd, q⟩, k⟩ => by
    obtain ⟨v, h1, h2⟩ := rl.slot i d hd
    refine ⟨v, h1, e, env, Z, Fs, rl, _, q, fun vs H2 Z2 ds G x2 r2 nd2 fre2 q2 => ?_⟩
    refine k (v :: vs) H2 Z2 (d :: ds) (Fs i ++ G) x2 ⟨v, vs, Fs i, G, rfl, h2.ext x2, r2, rfl⟩ (List.nodup_append.mpr ⟨rl.nd i, nd2, fun a m b n e => ?_⟩) (fun a m => ?_) q2
    · subst e
      rcases (fre2 a n).2 with z | ⟨j, hj, z⟩
      · obtain ⟨o, w⟩ := rl.alloc m
        rw [z] at w; cases w
      · exact rl.dj i j a (fun q => hi (q ▸ hj)) m z
    · rcases List.mem_append.mp m with m | m
      · exact ⟨(rl.ext x2).dz i a m, .inr ⟨i, List.mem_cons_self, m⟩⟩
      · refine ⟨(fre2 a m).1, ?_⟩
        rcases (fre2 a m).2 with z | ⟨j, hj, z⟩
        · exact .inl z
        · exact .inr ⟨j, List.mem_cons_of_mem _ hj, z⟩⟩

/-! ### displays -/
def lst_ (u : TAD) : TED := fun env Q => u env fun ds => ds.length ≤ sizeLine ∧ Q (.lst true ds)
def tup_ (u : TAD) : TED := fun env Q => u env fun ds => ds.length ≤ sizeLine ∧ Q (.tup ds)
theorem fresh_lst {K : PySem.W.Frag} {H : Hp} {Z : Addr → Prop} {ds : List D} {vs : List V} {F : List Addr} {p : Addr} (hp : H p = none) (r : RL K cs H Z ds vs F) : R K cs (upd H p (.lst vs)) Z (.lst true ds) (.ref p) (p :: F) :=
  ⟨p, vs, F, rfl, upd_same, RL.ext (Ext.of (same_upd hp)) r, rfl⟩
theorem fresh_tup {K : PySem.W.Frag} {H : Hp} {Z : Addr → Prop} {ds : List D} {vs : List V} {F : List Addr} {p : Addr} (hp : H p = none) (r : RL K cs H Z ds vs F) : R K cs (upd H p (.tup vs)) Z (.tup ds) (.ref p) F :=
  ⟨p, vs, rfl, SqT.of upd_same, RL.ext (Ext.of (same_upd hp)) r⟩
theorem vt_lst {u : TAD} (h : VM X cs [] es u) : VT X cs (.List es pos) (lst_ u) :=
  ⟨pe_weak (pe_lst h.run) fun σ H Q ⟨e, env, Z, Fs, rl, QD, q, k⟩ => ⟨e, env, Z, Fs, rl, _, q, fun vs H' Z' ds F x r nd fre z => ⟨by rw [r.len]; exact z.1, fun p hp => by
    have nz : ¬ Z' p := (rl.ext x).nz hp
    refine k _ _ Z' (.lst true ds) (p :: F) (x.trans (Ext.of (same_upd hp))) (fresh_lst hp r) (List.nodup_cons.mpr ⟨fun m => ?_, nd⟩) (fun a m => ?_) z.2
    · obtain ⟨o, w⟩ := RL.alloc ds vs F r p m
      rw [hp] at w; cases w
    · rcases List.mem_cons.mp m with rfl | m
      · exact ⟨x.same.free hp, nz⟩
      · rcases (fre a m).2 with z | ⟨i, hi, _⟩
        · exact ⟨z, (fre a m).1⟩
        · cases hi⟩⟩⟩
theorem vt_tup {u : TAD} {k0} (h : VM X cs [] es u) : VT X cs (.Tuple es k0 pos) (tup_ u) :=
  ⟨pe_weak (pe_tup h.run) fun σ H Q ⟨e, env, Z, Fs, rl, QD, q, k⟩ => ⟨e, env, Z, Fs, rl, _, q, fun vs H' Z' ds F x r nd fre z => ⟨by rw [r.len]; exact z.1, fun p hp => by
    refine k _ _ Z' (.tup ds) F (x.trans (Ext.of (same_upd hp))) (fresh_tup hp r) nd (fun a m => ?_) z.2
    rcases (fre a m).2 with z | ⟨i, hi, _⟩
    · exact ⟨z, (fre a m).1⟩
    · cases hi⟩⟩⟩
end
end VL
set_option maxHeartbeats 2000000
namespace VL
open PySem L2
section
variable {K : PySem.W.Frag} {cs : Cs}
/-- the wish at an operator's end -/
abbrev Fin (K : PySem.W.Frag) (cs : Cs) (H : Hp) (Z : Addr → Prop) (Q : VK) (QD : D → Prop) : Prop :=
  ∀ u H' Z' d F', Ext cs H H' Z Z' → R K cs H' Z' d u F' → F'.Nodup → (∀ a ∈ F', H a = none ∧ ¬ Z' a) → QD d → Q u H'
theorem fin_at {H : Hp} {Z : Addr → Prop} {Q : VK} {QD : D → Prop} {d : D} {v : V} (k : Fin K cs H Z Q QD) (r : R K cs H Z d v []) (q : QD d) : Q v H :=
  k v H Z d [] (Ext.refl H Z) r List.nodup_nil (fun a m => absurd m (by simp)) q
theorem fin_lst {H : Hp} {Z : Addr → Prop} {Q : VK} {QD : D → Prop} {ds : List D} {vs : List V} {p : Addr} (za : ∀ a, Z a → ∃ o, H a = some o) (k : Fin K cs H Z Q QD) (hp : H p = none) (r : RL K cs H Z ds vs []) (q : QD (.lst true ds)) : Q (.ref p) (upd H p (.lst vs)) :=
  k _ _ Z _ [p] (Ext.of (same_upd hp)) (fresh_lst hp r) (by simp) (fun a m => by
    have e : a = p := by simpa using m
    subst e
    exact ⟨hp, fun z => by obtain ⟨o, w⟩ := za _ z; rw [hp] at w; cases w⟩) q
theorem fin_tup {H : Hp} {Z : Addr → Prop} {Q : VK} {QD : D → Prop} {ds : List D} {vs : List V} {p : Addr} (k : Fin K cs H Z Q QD) (hp : H p = none) (r : RL K cs H Z ds vs []) (q : QD (.tup ds)) : Q (.ref p) (upd H p (.tup vs)) :=
  k _ _ Z _ [] (Ext.of (same_upd hp)) (fresh_tup hp r) List.nodup_nil (fun a m => absurd m (by simp)) q
/-- a list or tuple that is read -/
theorem R.lstv {H : Hp} {Z : Addr → Prop} {m : Bool} {xs : List D} {v : V} {F : List Addr} (h : R K cs H Z (.lst m xs) v F) : ∃ a vs F', v = .ref a ∧ SqL K H a vs ∧ RL K cs H Z xs vs F' ∧ (∀ b ∈ F', b ∈ F) := by
  cases m with
  | true =>
    obtain ⟨a, vs, F', e, t, r, rfl⟩ := h
    exact ⟨a, vs, F', e, SqL.of t, r, fun b m => List.mem_cons_of_mem _ m⟩
  | false =>
    obtain ⟨a, vs, e, t, r, rfl⟩ := h
    refine ⟨a, vs, [], e, ?_, r, fun b m => m⟩
    rcases t with t | t
    · exact .inl t.1
    · exact .inr t
theorem R.tupv {H : Hp} {Z : Addr → Prop} {xs : List D} {v : V} {F : List Addr} (h : R K cs H Z (.tup xs) v F) : ∃ a vs, v = .ref a ∧ SqT K H a vs ∧ RL K cs H Z xs vs F := h
theorem RL.noF0 {H : Hp} {Z : Addr → Prop} {xs : List D} {vs : List V} {F : List Addr} (h : RL K cs H Z xs vs F) (n : noOwnL xs = true) : RL K cs H Z xs vs [] := by
  have := RL.noF xs vs F n h
  subst this
  exact h

/-! ### numbers -/
def dInt2 (C : Int → Int → Prop) (g : Int → Int → Int) : D → D → (D → Prop) → Prop
  | .int i, .int j, Q => C i j ∧ Q (.int (g i j))
  | _, _, _ => False
theorem od_int2 {C C' : Int → Int → Prop} {g : Int → Int → Int} (h : ∀ i j, C i j → C' i j) : OD K cs (rI C' fun i j => .int (g i j)) (dInt2 C g) := by
  intro H Z Q QD x y v w F G za rx ry q k
  cases x <;> cases y <;> first
    | exact False.elim q
    | exact ⟨_, _, rx.1, ry.1, h _ _ q.1, fin_at (d := .int _) k ⟨rfl, rfl⟩ q.2⟩
def CDv (_ j : Int) : Prop := 0 < j ∧ j < 10000000000000000000000000000000000000000000000000000000000000000000000
theorem CDv.ok {i j : Int} (h : CDv i j) : CDivW i j := wide_div (b := 250) h.1 (by have := h.2; have := h.1; omega) (by decide) (by decide)
def CMd (_ j : Int) : Prop := 0 < j
abbrev dFdiv := dInt2 CDv fun i j => i / j
abbrev dMod := dInt2 CMd fun i j => i % j
def CPw (i j : Int) : Prop := 0 ≤ j ∧ j ≤ 1000 ∧ -1000 ≤ i ∧ i ≤ 1000
theorem CPw.ok {i j : Int} (h : CPw i j) : CPow i j := ⟨h.1, by have := h.2.1; omega, by have := h.2.2.1; have := h.2.2.2; omega⟩
def CMl (i j : Int) : Prop := (-18446744073709551616 < i ∧ i < 18446744073709551616) ∨ (-18446744073709551616 < j ∧ j < 18446744073709551616)
theorem CMl.ok {i j : Int} (h : CMl i j) : CMul i j := by unfold CMul; unfold CMl at h; omega
abbrev dPow := dInt2 CPw fun i j => i ^ j.toNat
theorem od_fdiv : OD K cs (rI CDivW fun i j => .int (i / j)) dFdiv := od_int2 fun _ _ h => h.ok
theorem od_mod : OD K cs (rI (fun _ j => 0 < j) fun i j => .int (i % j)) dMod := od_int2 fun _ _ h => h
theorem od_pow : OD K cs (rI CPow fun i j => .int (i ^ j.toNat)) dPow := od_int2 fun _ _ h => h.ok
def dSub : D → D → (D → Prop) → Prop
  | .int i, .int j, Q => Q (.int (i - j))
  | _, _, _ => False
theorem od_sub : OD K cs (rI0 fun i j => .int (i - j)) dSub := by
  intro H Z Q QD x y v w F G za rx ry q k
  cases x <;> cases y <;> first
    | exact False.elim q
    | exact ⟨_, _, rx.1, ry.1, fin_at (d := .int _) k ⟨rfl, rfl⟩ q⟩
abbrev dMul := dInt2 CMl fun i j => i * j
theorem od_mul : OD K cs (rI CMul fun i j => .int (i * j)) dMul := od_int2 fun _ _ h => h.ok
/-- + -/
def rAll4 (K : PySem.W.Frag) : R2 := fun x y H Q => (rI0 fun i j => .int (i + j)) x y H Q ∨ (fun x y H Q => ∃ i j, x = V.str i ∧ y = V.str j ∧ i.length + j.length ≤ sizeLine ∧ Q (.str (i ++ j)) H) x y H Q ∨ rCat x y H Q ∨ rCatT K x y H Q
theorem op_add4 {X : Cx} : OpR X (binaryOp .Add) (rAll4 X.K) := op_add.or (op_add_str.or (op_cat.or op_catT))
def dAdd : D → D → (D → Prop) → Prop
  | .int i, .int j, Q => Q (.int (i + j))
  | .str i, .str j, Q => i.length + j.length ≤ sizeLine ∧ Q (.str (i ++ j))
  | .lst true xs, .lst true ys, Q => noOwnL xs = true ∧ noOwnL ys = true ∧ xs.length + ys.length ≤ sizeLine ∧ Q (.lst true (xs ++ ys))
  | .tup xs, .tup ys, Q => xs ≠ [] ∧ noOwnL xs = true ∧ noOwnL ys = true ∧ xs.length + ys.length ≤ sizeLine ∧ Q (.tup (xs ++ ys))
  | _, _, _ => False
theorem RL.app0 {H : Hp} {Z : Addr → Prop} {d e : List D} {v w : List V} (a : RL K cs H Z d v []) (b : RL K cs H Z e w []) : RL K cs H Z (d ++ e) (v ++ w) [] := RL.app a b
theorem od_add : OD K cs (rAll4 K) dAdd := by
  intro H Z Q QD x y v w F G za rx ry q k
  cases x with
  | int i => cases y <;> first
    | exact False.elim q
    | exact .inl ⟨_, _, rx.1, ry.1, fin_at (d := .int _) k ⟨rfl, rfl⟩ q⟩
  | str i => cases y <;> first
    | exact False.elim q
    | exact .inr (.inl ⟨_, _, rx.1, ry.1, q.1, fin_at (d := .str _) k ⟨rfl, rfl⟩ q.2⟩)
  | lst m xs =>
    cases m with
    | false => cases y <;> exact False.elim q
    | true =>
      cases y with
      | lst m ys =>
        cases m with
        | false => exact False.elim q
        | true =>
          obtain ⟨a, vs, F', e, t, r, rfl⟩ := rx
          obtain ⟨b, ws, G', e2, t2, r2, rfl⟩ := ry
          obtain ⟨n1, n2, l, q⟩ := q
          have h1 := RL.noF0 r n1
          have h2 := RL.noF0 r2 n2
          exact .inr (.inr (.inl ⟨a, b, vs, ws, e, e2, t, t2, by rw [r.len, r2.len]; exact l, fun p hp => fin_lst za k hp (RL.app0 h1 h2) q⟩))
      | _ => exact False.elim q
  | tup xs =>
    cases y with
    | tup ys =>
      obtain ⟨a, vs, e, t, r⟩ := rx
      obtain ⟨b, ws, e2, t2, r2⟩ := ry
      obtain ⟨ne, n1, n2, l, q⟩ := q
      have h1 := RL.noF0 r n1
      have h2 := RL.noF0 r2 n2
      refine .inr (.inr (.inr ⟨a, b, vs, ws, e, e2, t, t2, fun z => ne ?_, by rw [r.len, r2.len]; exact l, fun z => ?_, fun z p hp => fin_tup k hp (RL.app0 h1 h2) q⟩))
      · have := r.len; rw [z] at this; exact List.length_eq_zero_iff.mp this.symm
      · have : ys = [] := by have := r2.len; rw [z] at this; exact List.length_eq_zero_iff.mp this.symm
        subst this
        rw [List.append_nil] at q
        exact fin_at (d := .tup xs) k ⟨a, vs, rfl, t, h1⟩ q
    | _ => exact False.elim q
  | _ => cases y <;> exact False.elim q

/-! ### comparisons of numbers -/
def dCmp (g : Int → Int → Bool) : D → D → (D → Prop) → Prop
  | .int i, .int j, Q => Q (.bl (g i j))
  | _, _, _ => False
theorem od_cmp {g : Int → Int → Bool} : OD K cs (rI0 fun i j => .bl (g i j)) (dCmp g) := by
  intro H Z Q QD x y v w F G za rx ry q k
  cases x <;> cases y <;> first
    | exact False.elim q
    | exact ⟨_, _, rx.1, ry.1, fin_at (d := .bl _) k ⟨rfl, rfl⟩ q⟩
abbrev dLt := dCmp fun i j => decide (i < j)
abbrev dLe := dCmp fun i j => decide (i ≤ j)
abbrev dGt := dCmp fun i j => decide (j < i)
abbrev dGe := dCmp fun i j => decide (j ≤ i)
def dIsN (neg : Bool) : D → D → (D → Prop) → Prop
  | .non, .non, Q => Q (.bl (!neg))
  | _, .non, Q => Q (.bl neg)
  | _, _, _ => False

/-! ### == and != -/
mutual
def toPd : D → PyData
  | .non => .none
  | .bl b => .bool b
  | .int i => .int i
  | .str x => .str x
  | .tup xs => .tuple (toPdL xs)
  | .lst _ xs => .list (toPdL xs)
  | .dic _ _ _ => .none
  | .dit _ _ _ => .none
  | .obj _ _ _ _ => .none
  | .opq => .none
def toPdL : List D → List PyData
  | [] => []
  | x :: xs => toPd x :: toPdL xs
end
mutual
def eqOk : D → Nat → Bool
  | .non, _ => true
  | .bl _, _ => true
  | .int _, _ => true
  | .str x, _ => PyData.strOk x
  | .tup xs, n => match n with
    | 0 => false
    | n + 1 => eqOkL xs n
  | .lst _ xs, n => match n with
    | 0 => false
    | n + 1 => eqOkL xs n
  | .dic _ _ _, _ => false
  | .dit _ _ _, _ => false
  | .obj _ _ _ _, _ => false
  | .opq, _ => false
def eqOkL : List D → Nat → Bool
  | [], _ => true
  | x :: xs, n => eqOk x n && eqOkL xs n
end
theorem eqOkL_all : ∀ (xs : List D) (n : Nat), eqOkL xs n = xs.all fun d => eqOk d n
  | [], _ => rfl
  | x :: xs, n => by rw [eqOkL, eqOkL_all xs n]; rfl
mutual
theorem eqOk_dp {H : Hp} {Z : Addr → Prop} : ∀ (d : D) (n : Nat) (v : V) (F : List Addr), eqOk d n = true → R K cs H Z d v F → Dp K H v (toPd d) ∧ (toPd d).canLay0 = true ∧ (toPd d).depth ≤ n
  | .non, n, v, F, h, r => by cases r.1; exact ⟨.non, rfl, Nat.zero_le _⟩
  | .bl _, n, v, F, h, r => by cases r.1; exact ⟨.bl _, rfl, Nat.zero_le _⟩
  | .int _, n, v, F, h, r => by cases r.1; exact ⟨.int _, rfl, Nat.zero_le _⟩
  | .str _, n, v, F, h, r => by cases r.1; exact ⟨.str _, h, Nat.zero_le _⟩
  | .tup xs, 0, v, F, h, r => by rw [eqOk] at h; cases h
  | .tup xs, n + 1, v, F, h, r => by
    obtain ⟨a, vs, rfl, t, r⟩ := r
    rw [eqOk] at h
    obtain ⟨h1, h2, h3⟩ := eqOkL_dp xs n vs F h r
    refine ⟨.tup t h1, ?_, ?_⟩
    · show PyData.canLay0 (.tuple (toPdL xs)) = true
      rw [PyData.canLay0]; exact h2
    · show PyData.depth (.tuple (toPdL xs)) ≤ _
      rw [PyData.depth]; omega
  | .lst m xs, 0, v, F, h, r => by rw [eqOk] at h; cases h
  | .lst m xs, n + 1, v, F, h, r => by
    obtain ⟨a, vs, F', rfl, t, r, _⟩ := R.lstv r
    rw [eqOk] at h
    obtain ⟨h1, h2, h3⟩ := eqOkL_dp xs n vs F' h r
    refine ⟨.lst t h1, ?_, ?_⟩
    · show PyData.canLay0 (.list (toPdL xs)) = true
      rw [PyData.canLay0]; exact h2
    · show PyData.depth (.list (toPdL xs)) ≤ _
      rw [PyData.depth]; omega
  | .dic _ _ _, n, v, F, h, r => by rw [eqOk] at h; cases h
  | .dit _ _ _, n, v, F, h, r => by rw [eqOk] at h; cases h
  | .obj _ _ _ _, n, v, F, h, r => by rw [eqOk] at h; cases h
  | .opq, n, v, F, h, r => by rw [eqOk] at h; cases h
theorem eqOkL_dp {H : Hp} {Z : Addr → Prop} : ∀ (d : List D) (n : Nat) (v : List V) (F : List Addr), eqOkL d n = true → RL K cs H Z d v F → DpAll K H v (toPdL d) ∧ PyData.canLayAll0 (toPdL d) = true ∧ PyData.depthAll (toPdL d) ≤ n
  | [], n, v, F, h, r => by rw [r.1]; exact ⟨.nil, rfl, Nat.zero_le _⟩
  | x :: xs, n, v, F, h, r => by
    obtain ⟨v, vs', F1, F2, rfl, r1, r2, rfl⟩ := r
    rw [eqOkL] at h; simp only [Bool.and_eq_true] at h
    obtain ⟨a1, a2, a3⟩ := eqOk_dp x n v F1 h.1 r1
    obtain ⟨b1, b2, b3⟩ := eqOkL_dp xs n vs' F2 h.2 r2
    refine ⟨.cons a1 b1, ?_, ?_⟩
    · show PyData.canLayAll0 (toPd x :: toPdL xs) = true
      rw [PyData.canLayAll0, a2, b2]; rfl
    · show PyData.depthAll (toPd x :: toPdL xs) ≤ n
      rw [PyData.depthAll]; omega
end
def deq (x y : D) : Bool := PyData.eqv (toPd x) (toPd y)
/-- two scalars of one kind -/
def scalD : D → D → Bool
  | .int _, .int _ => true
  | .str _, .str _ => true
  | .bl _, .bl _ => true
  | _, _ => false
def dEq (neg : Bool) (x y : D) (Q : D → Prop) : Prop := (scalD x y || (eqOk x 60 && eqOk y 60)) = true ∧ Q (.bl (if neg then !deq x y else deq x y))
def rEq2 (K : PySem.W.Frag) : R2 := fun x y H Q => rEq x y H Q ∨ rEqD K x y H Q
def rNe2 (K : PySem.W.Frag) : R2 := fun x y H Q => rNe x y H Q ∨ rNeD K x y H Q
theorem op_eq2 {X : Cx} (hu : X.A.units + 64 < cLine) : OpR X (compareOp .Eq) (rEq2 X.K) := op_eq.or (op_eqD hu)
theorem op_ne2 {X : Cx} (hu : X.A.units + 64 < cLine) : OpR X (compareOp .NotEq) (rNe2 X.K) := op_ne.or (op_neD hu)
theorem deq_scal {H : Hp} {Z : Addr → Prop} {x y : D} {v w : V} {F G : List Addr} (h : scalD x y = true) (rx : R K cs H Z x v F) (ry : R K cs H Z y w G) : scal v w = true ∧ decide (v = w) = deq x y := by
  cases x with
  | int i => cases y with
    | int j => cases rx.1; cases ry.1; exact ⟨rfl, dec_int⟩
    | _ => exact absurd (show false = true from h) Bool.false_ne_true
  | str i => cases y with
    | str j => cases rx.1; cases ry.1; exact ⟨rfl, dec_str⟩
    | _ => exact absurd (show false = true from h) Bool.false_ne_true
  | bl i => cases y with
    | bl j => cases rx.1; cases ry.1; exact ⟨rfl, dec_bl⟩
    | _ => exact absurd (show false = true from h) Bool.false_ne_true
  | _ => cases y <;> exact absurd (show false = true from h) Bool.false_ne_true
theorem shaped_of {d : PyData} (h : d.canLay0 = true) (h2 : d.depth ≤ 60) : SeqAt.shaped d = true := by
  unfold SeqAt.shaped
  rw [h, decide_eq_true (by omega)]; rfl
theorem od_eq : OD K cs (rEq2 K) (dEq false) := by
  intro H Z Q QD x y v w F G za rx ry q k
  obtain ⟨h, q⟩ := q
  rw [Bool.or_eq_true, Bool.and_eq_true] at h
  rcases h with h | ⟨h1, h2⟩
  · obtain ⟨a, b⟩ := deq_scal h rx ry
    exact .inl ⟨a, fin_at (d := .bl _) k ⟨rfl, rfl⟩ (by rw [b]; exact q)⟩
  · obtain ⟨a1, a2, a3⟩ := eqOk_dp x 60 v F h1 rx
    obtain ⟨b1, b2, b3⟩ := eqOk_dp y 60 w G h2 ry
    exact .inr ⟨_, _, a1, b1, shaped_of a2 a3, shaped_of b2 b3, fin_at (d := .bl _) k ⟨rfl, rfl⟩ q⟩
theorem od_ne : OD K cs (rNe2 K) (dEq true) := by
  intro H Z Q QD x y v w F G za rx ry q k
  obtain ⟨h, q⟩ := q
  rw [Bool.or_eq_true, Bool.and_eq_true] at h
  rcases h with h | ⟨h1, h2⟩
  · obtain ⟨a, b⟩ := deq_scal h rx ry
    exact .inl ⟨a, fin_at (d := .bl _) k ⟨rfl, rfl⟩ (by rw [b]; exact q)⟩
  · obtain ⟨a1, a2, a3⟩ := eqOk_dp x 60 v F h1 rx
    obtain ⟨b1, b2, b3⟩ := eqOk_dp y 60 w G h2 ry
    exact .inr ⟨_, _, a1, b1, shaped_of a2 a3, shaped_of b2 b3, fin_at (d := .bl _) k ⟨rfl, rfl⟩ q⟩

/-! ### in -/
def flatD : D → Bool
  | .non => true
  | .bl _ => true
  | .int _ => true
  | .str _ => true
  | _ => false
theorem flat_v {H : Hp} {Z : Addr → Prop} {x : D} {v : V} {F : List Addr} (f : flatD x = true) (r : R K cs H Z x v F) : flatV v = true := by
  cases x <;> first
    | (cases r.1; rfl)
    | exact absurd (show false = true from f) Bool.false_ne_true
theorem eqV_deq {H : Hp} {Z : Addr → Prop} {x y : D} {v w : V} {F G : List Addr} (f : flatD x = true) (g : flatD y = true) (rx : R K cs H Z x v F) (ry : R K cs H Z y w G) : eqV v w = deq x y := by
  cases x <;> first
    | exact absurd (show false = true from f) Bool.false_ne_true
    | (cases y <;> first
        | exact absurd (show false = true from g) Bool.false_ne_true
        | (cases rx.1; cases ry.1; rfl))
theorem flats_v {H : Hp} {Z : Addr → Prop} : ∀ {xs : List D} {vs : List V} {F : List Addr}, xs.all flatD = true → RL K cs H Z xs vs F → vs.all flatV = true
  | [], _, _, _, r => by rw [r.1]; rfl
  | x :: xs, v, F, h, r => by
    obtain ⟨v, vs', F1, F2, rfl, r1, r2, rfl⟩ := r
    rw [List.all_cons, Bool.and_eq_true] at h
    rw [List.all_cons, flat_v h.1 r1, flats_v h.2 r2]; rfl
theorem inV_any {H : Hp} {Z : Addr → Prop} {x : D} {v : V} {G : List Addr} (f : flatD x = true) (rx : R K cs H Z x v G) : ∀ {xs : List D} {vs : List V} {F : List Addr}, xs.all flatD = true → RL K cs H Z xs vs F → inV v vs = xs.any fun d => deq d x
  | [], _, _, _, r => by rw [r.1]; rfl
  | y :: xs, v', F, h, r => by
    obtain ⟨w, vs', F1, F2, rfl, r1, r2, rfl⟩ := r
    rw [List.all_cons, Bool.and_eq_true] at h
    have ih := inV_any f rx h.2 r2
    unfold inV at ih ⊢
    rw [List.any_cons, List.any_cons, ih, eqV_deq h.1 f r1 rx]
/-- a sign, a text within a text -/
def hasS (z x : Str) : Bool := !(Builtin.Str.occurrences z x 0 z.length 1).isEmpty
def dIn (neg : Bool) : D → D → (D → Prop) → Prop
  | x, .lst _ xs, Q => flatD x = true ∧ xs.all flatD = true ∧ Q (.bl (if neg then !(xs.any fun d => deq d x) else xs.any fun d => deq d x))
  | x, .tup xs, Q => flatD x = true ∧ xs.all flatD = true ∧ Q (.bl (if neg then !(xs.any fun d => deq d x) else xs.any fun d => deq d x))
  | .str x, .str z, Q => Q (.bl (if neg then !hasS z x else hasS z x))
  | _, _, _ => False
def rIn2 (K : PySem.W.Frag) (neg : Bool) : R2 := fun x y H Q => rIn K neg x y H Q ∨ ∃ i j, x = .str i ∧ y = .str j ∧ Q (.bl (if neg then !hasS j i else hasS j i)) H
theorem op_in2 {X : Cx} : OpR X (compareOp .In) (rIn2 X.K false) := op_in_seq.or op_in_str
theorem op_nin2 {X : Cx} : OpR X (compareOp .NotIn) (rIn2 X.K true) := op_notIn_seq.or op_notIn_str
theorem od_in {neg : Bool} : OD K cs (rIn2 K neg) (dIn neg) := by
  intro H Z Q QD x y v w F G za rx ry q k
  cases y with
  | lst m ys =>
    have q : flatD x = true ∧ ys.all flatD = true ∧ QD (.bl (if neg then !(ys.any fun d => deq d x) else ys.any fun d => deq d x)) := by cases x <;> exact q
    obtain ⟨f, fs, q⟩ := q
    obtain ⟨a, vs, F', rfl, t, r, _⟩ := R.lstv ry
    refine .inl ⟨a, vs, rfl, .inl t, flat_v f rx, flats_v fs r, fin_at (d := .bl _) k ⟨rfl, rfl⟩ ?_⟩
    rw [inV_any f rx fs r]; exact q
  | tup ys =>
    have q : flatD x = true ∧ ys.all flatD = true ∧ QD (.bl (if neg then !(ys.any fun d => deq d x) else ys.any fun d => deq d x)) := by cases x <;> exact q
    obtain ⟨f, fs, q⟩ := q
    obtain ⟨a, vs, rfl, t, r⟩ := R.tupv ry
    refine .inl ⟨a, vs, rfl, .inr t, flat_v f rx, flats_v fs r, fin_at (d := .bl _) k ⟨rfl, rfl⟩ ?_⟩
    rw [inV_any f rx fs r]; exact q
  | str z =>
    cases x with
    | str x => exact .inr ⟨_, _, rx.1, ry.1, fin_at (d := .bl _) k ⟨rfl, rfl⟩ q⟩
    | _ => exact False.elim q
  | _ => cases x <;> exact False.elim q
end

/-! ### subscripts, slices, attributes -/
section
variable {X : Cx} {cs : Cs} {a b c : Expr} {pos : Pos} {ta tb : TED} {es : List Expr}
def dIx : D → D → (D → Prop) → Prop
  | .lst _ xs, .int i, Q => ∃ d, atI xs i = some d ∧ Q d
  | .tup xs, .int i, Q => ∃ d, atI xs i = some d ∧ Q d
  | .str z, .int i, Q => z.length ≤ sizeLine ∧ ∃ c, atI z.cps.toList i = some c ∧ Q (.str ⟨#[c]⟩)
  | _, _, _ => False
theorem atI_RL {K : PySem.W.Frag} {H : Hp} {Z : Addr → Prop} {xs : List D} {vs : List V} {F : List Addr} {i : Int} {d : D} (r : RL K cs H Z xs vs F) (h : atI xs i = some d) : ∃ v G, atI vs i = some v ∧ R K cs H Z d v G := by
  unfold atI at h ⊢
  rw [r.len]
  cases e : ixN xs.length i with
  | none => rw [e] at h; cases h
  | some j =>
    rw [e] at h
    obtain ⟨v, G, h1, h2, _⟩ := RL.get r (show xs[j]? = some d from h)
    exact ⟨v, G, h1, h2⟩
theorem vp_ix (ha : VP X cs a ta) (hb : VP X cs b tb) (hs : PlainIx b := by first | exact (fun _ _ => rfl) | assumption) : VP X cs (.Subscript a b pos) (op2 dIx ta tb) :=
  ⟨pe_weak (pe_ix ix_seq ha.run hb.run hs) fun σ H Q ⟨e, env, Z, Fs, rl, QD, q, k⟩ => ⟨e, env, Z, Fs, rl, _, q, fun v H1 Z1 d F x1 rv q1 => ⟨e, env, Z1, Fs, rl.ext x1, _, q1, fun w H2 Z2 d2 G x2 rw q2 => by
    have rv := rv.ext x2
    have x := x1.trans x2
    cases d2 with
    | int i =>
      cases d with
      | lst m xs =>
        obtain ⟨y, h, q2⟩ := q2
        obtain ⟨p, vs, F', rfl, t, r, _⟩ := R.lstv rv
        obtain ⟨u, G', h1, h2⟩ := atI_RL r h
        exact .inl ⟨p, vs, i, u, rfl, rw.1, t, h1, k u H2 Z2 y G' x h2 q2⟩
      | tup xs =>
        obtain ⟨y, h, q2⟩ := q2
        obtain ⟨p, vs, rfl, t, r⟩ := R.tupv rv
        obtain ⟨u, G', h1, h2⟩ := atI_RL r h
        exact .inr (.inl ⟨p, vs, i, u, rfl, rw.1, t, h1, k u H2 Z2 y G' x h2 q2⟩)
      | str z =>
        obtain ⟨hz, y, h, q2⟩ := q2
        exact .inr (.inr ⟨z, i, y, rv.1, rw.1, hz, h, k _ H2 Z2 (.str _) [] x ⟨rfl, rfl⟩ q2⟩)
      | _ => exact False.elim q2
    | _ => cases d <;> exact False.elim q2⟩⟩⟩
/-- the slice xs[lo:hi] -/
def cutD {α : Type} (xs : List α) (lo hi : Option Int) : List α := (xs.drop (HT.sIx xs.length 0 lo)).take (HT.sIx xs.length xs.length hi - HT.sIx xs.length 0 lo)
abbrev TOD := Env → (Option Int → Prop) → Prop
structure VO (X : Cx) (cs : Cs) (e : Option Expr) (t : TOD) : Prop where
  run : PO X e (fun σ H Q => ∃ e env Z Fs, Rel X.K cs e H Z σ env Fs ∧ ∃ QD, t env QD ∧ ∀ o H' Z', Ext cs H H' Z Z' → QD o → Q o H')
theorem po_weak {X : Cx} {e : Option Expr} {t t' : TO} (h : PO X e t) (w : ∀ σ H Q, t' σ H Q → t σ H Q) : PO X e t' := ⟨fun pins s σ H Q I q => h.run pins s σ H Q I (w σ H Q q)⟩
def no_ : TOD := fun _ Q => Q none
def po_ (t : TED) : TOD := fun env Q => t env fun d => match d with | .int i => Q (some i) | _ => False
theorem vo_no : VO X cs none no_ := ⟨po_weak po_none fun σ H Q ⟨e, env, Z, Fs, rl, QD, q, k⟩ => k none H Z (Ext.refl H Z) q⟩
theorem vo_some (h : VP X cs a ta) : VO X cs (some a) (po_ ta) := ⟨po_weak (po_some h.run) fun σ H Q ⟨e, env, Z, Fs, rl, QD, q, k⟩ => ⟨e, env, Z, Fs, rl, _, q, fun v H' Z' d F x r z => by
  cases d with
  | int i => exact ⟨i, r.1, k (some i) H' Z' x z⟩
  | _ => exact False.elim z⟩⟩
def dSl : D → Option Int → Option Int → (D → Prop) → Prop
  | .lst _ xs, lo, hi, Q => noOwnL xs = true ∧ Q (.lst true (cutD xs lo hi))
  | .tup xs, lo, hi, Q => noOwnL xs = true ∧ ¬ (HT.sIx xs.length 0 lo = 0 ∧ HT.sIx xs.length xs.length hi = xs.length) ∧ Q (.tup (cutD xs lo hi))
  | .str z, lo, hi, Q => z.length ≤ sizeLine ∧ Q (.str (cutS z lo hi))
  | _, _, _, _ => False
def sl_ (ta : TED) (tl th : TOD) : TED := fun env Q => ta env fun d => tl env fun lo => th env fun hi => dSl d lo hi Q
theorem RL.take {K : PySem.W.Frag} {H : Hp} {Z : Addr → Prop} : ∀ {xs : List D} {vs : List V} (n : Nat), RL K cs H Z xs vs [] → RL K cs H Z (xs.take n) (vs.take n) []
  | [], vs, n, r => by rw [r.1]; simp; exact ⟨rfl, rfl⟩
  | x :: xs, vs, 0, r => ⟨rfl, rfl⟩
  | x :: xs, vs, n + 1, r => by
    obtain ⟨v, vs', F1, F2, rfl, r1, r2, e⟩ := r
    have e := List.append_eq_nil_iff.mp e.symm
    rw [e.1] at r1; rw [e.2] at r2
    exact ⟨v, vs'.take n, [], [], rfl, r1, RL.take n r2, rfl⟩
theorem RL.drop {K : PySem.W.Frag} {H : Hp} {Z : Addr → Prop} : ∀ {xs : List D} {vs : List V} (n : Nat), RL K cs H Z xs vs [] → RL K cs H Z (xs.drop n) (vs.drop n) []
  | [], vs, n, r => by rw [r.1]; simp; exact ⟨rfl, rfl⟩
  | x :: xs, vs, 0, r => r
  | x :: xs, vs, n + 1, r => by
    obtain ⟨v, vs', F1, F2, rfl, r1, r2, e⟩ := r
    have e := List.append_eq_nil_iff.mp e.symm
    rw [e.2] at r2
    exact RL.drop n r2
theorem RL.cut {K : PySem.W.Frag} {H : Hp} {Z : Addr → Prop} {xs : List D} {vs : List V} (lo hi : Option Int) (r : RL K cs H Z xs vs []) : RL K cs H Z (cutD xs lo hi) (cutV vs lo hi) [] := by
  unfold cutD cutV
  rw [r.len]
  exact RL.take _ (RL.drop _ r)
theorem vt_sl {lo hi : Option Expr} {tl th : TOD} {p2 : Pos} (ha : VP X cs a ta) (hl : VO X cs lo tl) (hh : VO X cs hi th) : VT X cs (.Subscript a (.Slice lo hi none p2) pos) (sl_ ta tl th) :=
  ⟨pe_weak (pe_slice (sl_list.or (sl_tup.or sl_str)) ha.run hl.run hh.run) fun σ H Q ⟨e, env, Z, Fs, rl, QD, q, k⟩ => ⟨e, env, Z, Fs, rl, _, q, fun v H1 Z1 d F x1 rv q1 => ⟨e, env, Z1, Fs, rl.ext x1, _, q1, fun lo H2 Z2 x2 q2 =>
    ⟨e, env, Z2, Fs, (rl.ext x1).ext x2, _, q2, fun hi H3 Z3 x3 q3 => by
      have rv := rv.ext (x2.trans x3)
      have x := x1.trans (x2.trans x3)
      have k' : Fin X.K cs H3 Z3 Q QD := fun u H' Z' d F' y r nd fre qd => k u H' Z' d F' (x.trans y) r nd (fun a m => ⟨x.same.free (fre a m).1, (fre a m).2⟩) qd
      have za := (rl.ext x).za
      cases d with
      | lst m xs =>
        obtain ⟨n, q3⟩ := q3
        obtain ⟨p, vs, F', rfl, t, r, _⟩ := R.lstv rv
        exact .inl ⟨p, vs, rfl, t, fun p hp => fin_lst za k' hp (RL.cut lo hi (RL.noF0 r n)) q3⟩
      | tup xs =>
        obtain ⟨n, h, q3⟩ := q3
        obtain ⟨p, vs, rfl, t, r⟩ := R.tupv rv
        exact .inr (.inl ⟨p, vs, rfl, t, by rw [r.len]; exact h, fun p hp => fin_tup k' hp (RL.cut lo hi (RL.noF0 r n)) q3⟩)
      | str z =>
        obtain ⟨n, q3⟩ := q3
        exact .inr (.inr ⟨z, rv.1, n, fin_at (d := .str _) k' ⟨rfl, rfl⟩ q3⟩)
      | _ => exact False.elim q3⟩⟩⟩⟩
/-- e.f -/
def dFld (f : Str) : D → (D → Prop) → Prop
  | .obj _ _ ns vs, Q => ∃ d, (ns.zip vs).lookup f = some d ∧ Q d
  | _, _ => False
theorem lookup_mem {α : Type} {f : Str} {v : α} : ∀ {ns : List Str} {vs : List α}, (ns.zip vs).lookup f = some v → f ∈ ns
  | [], _, h => by simp at h
  | _ :: _, [], h => by simp at h
  | n :: ns, w :: vs, h => by
    rw [List.zip_cons_cons, List.lookup_cons] at h
    cases e : f == n with
    | true => rw [beq_iff_eq] at e; subst e; exact List.mem_cons_self
    | false => rw [e] at h; exact List.mem_cons_of_mem _ (lookup_mem h)
theorem lookup_RL {K : PySem.W.Frag} {H : Hp} {Z : Addr → Prop} {f : Str} {d : D} : ∀ {ns : List Str} {xs : List D} {vs : List V} {F : List Addr}, RL K cs H Z xs vs F → (ns.zip xs).lookup f = some d → ∃ v G, (ns.zip vs).lookup f = some v ∧ R K cs H Z d v G
  | [], _, _, _, _, h => by simp at h
  | _ :: _, [], _, _, _, h => by simp at h
  | n :: ns, x :: xs, vs, F, r, h => by
    obtain ⟨v, vs', F1, F2, rfl, r1, r2, rfl⟩ := r
    rw [List.zip_cons_cons, List.lookup_cons] at h
    rw [List.zip_cons_cons, List.lookup_cons]
    cases e : f == n with
    | true => rw [e] at h; cases h; exact ⟨v, F1, rfl, r1⟩
    | false => rw [e] at h; exact lookup_RL r2 h
theorem R.objv {K : PySem.W.Frag} {H : Hp} {Z : Addr → Prop} {m : Bool} {c : Str} {ns : List Str} {xs : List D} {v : V} {F : List Addr} (h : R K cs H Z (.obj m c ns xs) v F) :
    ∃ a dx ci vs F', v = .ref a ∧ ci ∈ cs ∧ ci.name = c ∧ (∀ n ∈ ns, n ∈ ci.fields) ∧ H a = some (.ins ci.addr dx (ns.zip vs)) ∧ ns.length = xs.length ∧ RL K cs H Z xs vs F' := by
  cases m with
  | true =>
    obtain ⟨a, dx, ci, vs, F', e, m, n, f, t, l, r, rfl⟩ := h
    exact ⟨a, dx, ci, vs, F', e, m, n, f, t, l, r⟩
  | false =>
    obtain ⟨a, dx, ci, vs, e, m, n, f, t, z, l, r, rfl⟩ := h
    exact ⟨a, dx, ci, vs, [], e, m, n, f, t, l, r⟩
theorem vp_fld {f : Str} (hC : CsOk X.K cs) (ha : VP X cs a ta) (hb : attributeBase a f X.env (eval a X.env) = eval a X.env := by rfl) : VP X cs (.Attribute a f pos) (un_ (dFld f) ta) :=
  ⟨pe_weak (pe_fld ha.run hb) fun σ H Q ⟨e, env, Z, Fs, rl, QD, q, k⟩ => ⟨e, env, Z, Fs, rl, _, q, fun v H1 Z1 d F x1 rv q1 => by
    cases d with
    | obj m c ns xs =>
      obtain ⟨d, hl, q1⟩ := q1
      obtain ⟨p, dx, ci, vs, F', rfl, mem, nm, fl, t, l, r⟩ := R.objv rv
      obtain ⟨u, G, h1, h2⟩ := lookup_RL r hl
      exact ⟨p, ci.addr, dx, _, u, rfl, t, (hC ci mem).1, (hC ci mem).2 f (fl f (lookup_mem hl)), h1, k u H1 Z1 d G x1 h2 q1⟩
    | _ => exact False.elim q1⟩⟩

/-! ### built-in calls -/
def CD (K : PySem.W.Frag) (cs : Cs) (r : List V → Hp → VK → Prop) (f : List D → (D → Prop) → Prop) : Prop :=
  ∀ (H : Hp) (Z : Addr → Prop) (Q : VK) (QD : D → Prop) (ds : List D) (vs : List V) (F : List Addr), (∀ a, Z a → ∃ o, H a = some o) → RL K cs H Z ds vs F → f ds QD → Fin K cs H Z Q QD → r vs H Q
def call_ (f : List D → (D → Prop) → Prop) (u : TAD) : TED := fun env Q => u env fun ds => f ds Q
theorem cd_te {K : PySem.W.Frag} {r : List V → Hp → VK → Prop} {f : List D → (D → Prop) → Prop} {u : TAD} (hf : CD K cs r f) : ∀ σ H Q, tOfT K cs (call_ f u) σ H Q → tCB r (tOfA K cs u) σ H Q := fun σ H Q ⟨e, env, Z, Fs, rl, QD, q, k⟩ =>
  ⟨e, env, Z, Fs, rl, _, q, fun vs H1 Z1 ds F x1 rv q1 => hf H1 Z1 Q QD ds vs F (rl.ext x1).za rv q1 fun u H' Z' d F' y r nd fre qd => k u H' Z' d F' (x1.trans y) r nd (fun a m => ⟨x1.same.free (fre a m).1, (fre a m).2⟩) qd⟩
variable {x id T : String} {n : Str} {p : Pos} {r : List V → Hp → VK → Prop} {f : List D → (D → Prop) → Prop} {u : TAD}
theorem vt_callB (hc : CallR X (.builtin id) r) (hf : CD X.K cs r f) (hg : Gl X n) (hm : X.mg n = none) (hv : bootBuiltins n = some (.builtin id)) (ha : VAr X cs (a :: es) u) (hn : n ≠ "__name__" := by decide) (hdb : (n == ("__debug__" : Str)) = false := by decide)
    (he : starEach (a :: es) X.env = (false, eval a X.env) :: starEach es X.env := by rfl) (hpl : (backTo pos (starEach es X.env)).any (·.1) = false := by rfl) : VT X cs (.Call (.Name n p) (a :: es) [] pos) (call_ f u) :=
  ⟨pe_weak (pe_callB hc hg hm hv ha.run hn hdb he hpl) (cd_te hf)⟩
theorem vt_callTy (hc : CallR X (.type T) r) (hf : CD X.K cs r f) (hg : Gl X n) (hm : X.mg n = none) (hv : bootBuiltins n = some (.type T)) (ha : VAr X cs (a :: es) u) (hn : n ≠ "__name__" := by decide) (hdb : (n == ("__debug__" : Str)) = false := by decide)
    (he : starEach (a :: es) X.env = (false, eval a X.env) :: starEach es X.env := by rfl) (hpl : (backTo pos (starEach es X.env)).any (·.1) = false := by rfl) : VT X cs (.Call (.Name n p) (a :: es) [] pos) (call_ f u) :=
  ⟨pe_weak (pe_callTy hc hg hm hv ha.run hn hdb he hpl) (cd_te hf)⟩
/-- calls of one value, of two -/
def one_ (f : D → (D → Prop) → Prop) : List D → (D → Prop) → Prop
  | [x], Q => f x Q
  | _, _ => False
def two_ (f : D → D → (D → Prop) → Prop) : List D → (D → Prop) → Prop
  | [x, y], Q => f x y Q
  | _, _ => False
theorem RL.one1 {K : PySem.W.Frag} {H : Hp} {Z : Addr → Prop} {x : D} {vs : List V} {F : List Addr} (r : RL K cs H Z [x] vs F) : ∃ v, vs = [v] ∧ R K cs H Z x v F := by
  obtain ⟨v, vs', F1, F2, rfl, r1, r2, rfl⟩ := r
  rw [r2.1, r2.2, List.append_nil]
  exact ⟨v, rfl, r1⟩
theorem RL.two {K : PySem.W.Frag} {H : Hp} {Z : Addr → Prop} {x y : D} {vs : List V} {F : List Addr} (r : RL K cs H Z [x, y] vs F) : ∃ v w G1 G2, vs = [v, w] ∧ R K cs H Z x v G1 ∧ R K cs H Z y w G2 := by
  obtain ⟨v, vs', F1, F2, rfl, r1, r2, rfl⟩ := r
  obtain ⟨w, rfl, r3⟩ := RL.one1 r2
  exact ⟨v, w, F1, F2, rfl, r1, r3⟩
theorem cd_one {K : PySem.W.Frag} {r : List V → Hp → VK → Prop} {f : D → (D → Prop) → Prop}
    (h : ∀ (H : Hp) (Z : Addr → Prop) (Q : VK) (QD : D → Prop) (d : D) (v : V) (F : List Addr), (∀ a, Z a → ∃ o, H a = some o) → R K cs H Z d v F → f d QD → Fin K cs H Z Q QD → r [v] H Q) : CD K cs r (one_ f) := by
  intro H Z Q QD ds vs F za rv q k
  cases ds with
  | nil => exact False.elim q
  | cons d t =>
    cases t with
    | cons _ _ => exact False.elim q
    | nil =>
      obtain ⟨v, rfl, rw⟩ := RL.one1 rv
      exact h H Z Q QD d v F za rw q k
theorem cd_two {K : PySem.W.Frag} {r : List V → Hp → VK → Prop} {f : D → D → (D → Prop) → Prop}
    (h : ∀ (H : Hp) (Z : Addr → Prop) (Q : VK) (QD : D → Prop) (d e : D) (v w : V) (F G : List Addr), (∀ a, Z a → ∃ o, H a = some o) → R K cs H Z d v F → R K cs H Z e w G → f d e QD → Fin K cs H Z Q QD → r [v, w] H Q) : CD K cs r (two_ f) := by
  intro H Z Q QD ds vs F za rv q k
  cases ds with
  | nil => exact False.elim q
  | cons d t =>
    cases t with
    | nil => exact False.elim q
    | cons e t =>
      cases t with
      | cons _ _ => exact False.elim q
      | nil =>
        obtain ⟨v, w, G1, G2, rfl, r1, r2⟩ := RL.two rv
        exact h H Z Q QD d e v w G1 G2 za r1 r2 q k
def dLen1 : D → (D → Prop) → Prop
  | .lst _ xs, Q => Q (.int xs.length)
  | .tup xs, Q => Q (.int xs.length)
  | .str z, Q => z.length ≤ sizeLine ∧ Q (.int z.length)
  | _, _ => False
abbrev dLen := one_ dLen1
theorem cd_len {K : PySem.W.Frag} : CD K cs (fun xs H Q => ∃ x n, xs = [x] ∧ LenV K x H n ∧ Q (.int n) H) dLen := cd_one fun H Z Q QD d v F za rv q k => by
  cases d with
  | lst m xs =>
    obtain ⟨a, ws, F', rfl, t, r, _⟩ := R.lstv rv
    exact ⟨_, _, rfl, .inl ⟨ws, t, rfl⟩, fin_at (d := .int _) k ⟨rfl, rfl⟩ (by rw [r.len]; exact q)⟩
  | tup xs =>
    obtain ⟨a, ws, rfl, t, r⟩ := R.tupv rv
    exact ⟨_, _, rfl, .inr ⟨ws, t, rfl⟩, fin_at (d := .int _) k ⟨rfl, rfl⟩ (by rw [r.len]; exact q)⟩
  | str z =>
    cases rv.1
    exact ⟨_, _, rfl, ⟨q.1, rfl⟩, fin_at (d := .int _) k ⟨rfl, rfl⟩ q.2⟩
  | _ => exact False.elim q
def dList1 : D → (D → Prop) → Prop
  | .lst _ xs, Q => noOwnL xs = true ∧ Q (.lst true xs)
  | .tup xs, Q => noOwnL xs = true ∧ Q (.lst true xs)
  | _, _ => False
abbrev dList := one_ dList1
theorem cd_list {K : PySem.W.Frag} : CD K cs (fun xs H Q => ∃ p ys, xs = [.ref p] ∧ (SqL K H p ys ∨ SqT K H p ys) ∧ ∀ l, H l = none → Q (.ref l) (upd H l (.lst ys))) dList := cd_one fun H Z Q QD d v F za rv q k => by
  cases d with
  | lst m xs =>
    obtain ⟨a, ws, F', rfl, t, r, _⟩ := R.lstv rv
    exact ⟨_, _, rfl, .inl t, fun l hl => fin_lst za k hl (RL.noF0 r q.1) q.2⟩
  | tup xs =>
    obtain ⟨a, ws, rfl, t, r⟩ := R.tupv rv
    exact ⟨_, _, rfl, .inr t, fun l hl => fin_lst za k hl (RL.noF0 r q.1) q.2⟩
  | _ => exact False.elim q
def dTuple1 : D → (D → Prop) → Prop
  | .lst _ xs, Q => noOwnL xs = true ∧ Q (.tup xs)
  | .tup xs, Q => noOwnL xs = true ∧ Q (.tup xs)
  | _, _ => False
abbrev dTuple := one_ dTuple1
theorem cd_tuple {K : PySem.W.Frag} : CD K cs (fun xs H Q => ∃ p ys, xs = [.ref p] ∧ ((SqL K H p ys ∧ ∀ l, H l = none → Q (.ref l) (upd H l (.tup ys))) ∨ (SqT K H p ys ∧ Q (.ref p) H))) dTuple := cd_one fun H Z Q QD d v F za rv q k => by
  cases d with
  | lst m xs =>
    obtain ⟨a, ws, F', rfl, t, r, _⟩ := R.lstv rv
    exact ⟨_, _, rfl, .inl ⟨t, fun l hl => fin_tup k hl (RL.noF0 r q.1) q.2⟩⟩
  | tup xs =>
    obtain ⟨a, ws, rfl, t, r⟩ := R.tupv rv
    exact ⟨_, _, rfl, .inr ⟨t, fin_at (d := .tup xs) k ⟨a, ws, rfl, t, RL.noF0 r q.1⟩ q.2⟩⟩
  | _ => exact False.elim q
def dI2 (g : Int → Int → Int) : D → D → (D → Prop) → Prop
  | .int i, .int j, Q => Q (.int (g i j))
  | _, _, _ => False
theorem cd_i2 {K : PySem.W.Frag} {g : Int → Int → Int} : CD K cs (fun xs H Q => ∃ i j, xs = [.int i, .int j] ∧ Q (.int (g i j)) H) (two_ (dI2 g)) := cd_two fun H Z Q QD d e v w F G za r1 r2 q k => by
  cases d <;> cases e <;> first
    | exact False.elim q
    | (cases r1.1; cases r2.1; exact ⟨_, _, rfl, fin_at (d := .int _) k ⟨rfl, rfl⟩ q⟩)
abbrev dMax := two_ (dI2 fun i j => if j > i then j else i)
abbrev dMin := two_ (dI2 fun i j => if j < i then j else i)
def dToInt1 : D → (D → Prop) → Prop
  | .int i, Q => Q (.int i)
  | .bl b, Q => Q (.int (if b then 1 else 0))
  | _, _ => False
abbrev dToInt := one_ dToInt1
theorem cd_int {K : PySem.W.Frag} : CD K cs (fun xs H Q => (∃ i, xs = [.int i] ∧ Q (.int i) H) ∨ ∃ k, xs = [.bl k] ∧ Q (.int (if k then 1 else 0)) H) dToInt := cd_one fun H Z Q QD d v F za rv q k => by
  cases d with
  | int i => cases rv.1; exact .inl ⟨i, rfl, fin_at (d := .int _) k ⟨rfl, rfl⟩ q⟩
  | bl i => cases rv.1; exact .inr ⟨i, rfl, fin_at (d := .int _) k ⟨rfl, rfl⟩ q⟩
  | _ => exact False.elim q
def dAbs1 : D → (D → Prop) → Prop
  | .int i, Q => Q (.int (if i < 0 then -i else i))
  | _, _ => False
abbrev dAbs := one_ dAbs1
theorem cd_abs {K : PySem.W.Frag} : CD K cs (fun xs H Q => ∃ i, xs = [.int i] ∧ Q (.int (if i < 0 then -i else i)) H) dAbs := cd_one fun H Z Q QD d v F za rv q k => by
  cases d with
  | int i => cases rv.1; exact ⟨i, rfl, fin_at (d := .int _) k ⟨rfl, rfl⟩ q⟩
  | _ => exact False.elim q
def dStr1 : D → (D → Prop) → Prop
  | .int i, Q => i.natAbs.log2 < 1920 ∧ Q (.str (toString i))
  | _, _ => False
abbrev dStr := one_ dStr1
theorem cd_str {K : PySem.W.Frag} : CD K cs (fun xs H Q => ∃ i, xs = [V.int i] ∧ i.natAbs.log2 < 1920 ∧ Q (.str (toString i)) H) dStr := cd_one fun H Z Q QD d v F za rv q k => by
  cases d with
  | int i => cases rv.1; exact ⟨i, rfl, q.1, fin_at (d := .str _) k ⟨rfl, rfl⟩ q.2⟩
  | _ => exact False.elim q
theorem map_int_inj : ∀ {a b : List Int}, a.map D.int = b.map D.int → a = b
  | [], [], _ => rfl
  | [], _ :: _, h => by cases h
  | _ :: _, [], h => by cases h
  | x :: xs, y :: ys, h => by
    rw [List.map_cons, List.map_cons] at h
    injection h with h1 h2
    injection h1 with h1
    rw [h1, map_int_inj h2]
theorem RL.ints {K : PySem.W.Frag} {H : Hp} {Z : Addr → Prop} : ∀ {ns : List Int} {vs : List V} {F : List Addr}, RL K cs H Z (ns.map .int) vs F → vs = ns.map .int
  | [], _, _, r => r.1
  | n :: ns, vs, F, r => by
    obtain ⟨v, vs', F1, F2, rfl, r1, r2, rfl⟩ := r
    rw [r1.1, RL.ints r2]; rfl
theorem RL.of_ints {K : PySem.W.Frag} {H : Hp} {Z : Addr → Prop} : ∀ (ns : List Int), RL K cs H Z (ns.map .int) (ns.map .int) []
  | [] => ⟨rfl, rfl⟩
  | n :: ns => ⟨_, _, [], [], rfl, ⟨rfl, rfl⟩, RL.of_ints ns, rfl⟩
/-- sorted(a list of ints) -/
def dSorted (ds : List D) (Q : D → Prop) : Prop := ∃ m ns, ds = [.lst m (ns.map .int)] ∧ ∀ ns' : List Int, ns'.Perm ns → ns'.Pairwise (· ≤ ·) → Q (.lst true (ns'.map .int))
theorem cd_sorted {K : PySem.W.Frag} : CD K cs (rSortedI K) dSorted := by
  intro H Z Q QD ds vs F za rv q k
  obtain ⟨m, ns, rfl, q⟩ := q
  obtain ⟨v, rfl, rw⟩ := RL.one1 rv
  obtain ⟨a, ws, F', rfl, t, r, _⟩ := R.lstv rw
  rw [RL.ints r] at t
  exact ⟨a, ns, rfl, t, fun ns' p hp hs hn => fin_lst za k hn (RL.of_ints ns') (q ns' hp hs)⟩
/-- isinstance(x, T), T a built-in type -/
def tyD : D → String
  | .non => "NoneType"
  | .bl _ => "bool"
  | .int _ => "int"
  | .str _ => "str"
  | .tup _ => "tuple"
  | .lst _ _ => "list"
  | .dic _ _ _ => "dict"
  | .dit _ _ _ => "dict"
  | .obj _ _ _ _ => "object"
  | .opq => "object"
def isB (T : String) : D → Option Bool
  | .obj _ _ _ _ => none
  | d => kitB (tyD d) T
end
end VL
set_option maxHeartbeats 2000000
namespace VL
open PySem L2

/-! ### changes of the state -/
section
variable {K : PySem.W.Frag} {cs : Cs} {e : En} {H H' : Hp} {Z Z' : Addr → Prop} {σ : St} {env : Env} {Fs : Nat → List Addr}
theorem Rel.sets (r : Rel K cs e H Z σ env Fs) {i : Nat} {d : D} {v : V} {F : List Addr} (h : R K cs H Z d v F) (nd : F.Nodup)
    (hF : ∀ a ∈ F, ¬ Z a ∧ (e.W a ∨ e.H0 a = none) ∧ ∀ j, j ≠ i → a ∉ Fs j) (hio : ∀ p ∈ e.io, p.1 ≠ i) : ∃ Fs', Rel K cs e H Z (σ.set i (some v)) (env.set i (some d)) Fs' := by
  by_cases hi : i < env.length
  · refine ⟨fun j => if j = i then F else Fs j, ?_⟩
    have hσ : i < σ.length := by rw [r.len]; exact hi
    refine ⟨fun j x q => ?_, fun j q => ?_, fun j => ?_, fun j k a jk m => ?_, fun j a m => ?_, r.za, fun j a m => ?_, r.fr, r.th, r.tb, r.z0, r.z1, fun p m => ?_, r.gs, by simp [r.len]⟩
    · by_cases e : j = i
      · subst e
        rw [List.getElem?_set_self hi] at q
        cases q
        exact ⟨v, by rw [List.getElem?_set_self hσ], by rw [if_pos rfl]; exact h⟩
      · rw [List.getElem?_set_ne (Ne.symm e)] at q
        obtain ⟨w, h1, h2⟩ := r.slot j x q
        exact ⟨w, by rw [List.getElem?_set_ne (Ne.symm e)]; exact h1, by rw [if_neg e]; exact h2⟩
    · have e : j ≠ i := fun e => q d (by rw [e, List.getElem?_set_self hi])
      show (if j = i then F else Fs j) = []
      rw [if_neg e]
      exact r.off j fun x w => q x (by rw [List.getElem?_set_ne (Ne.symm e)]; exact w)
    · show (if j = i then F else Fs j).Nodup
      by_cases e : j = i
      · rw [if_pos e]; exact nd
      · rw [if_neg e]; exact r.nd j
    · show a ∉ (if k = i then F else Fs k)
      have m : a ∈ (if j = i then F else Fs j) := m
      by_cases e : j = i
      · rw [if_pos e] at m
        have ek : k ≠ i := fun q => jk (e.trans q.symm)
        rw [if_neg ek]
        exact (hF a m).2.2 k ek
      · rw [if_neg e] at m
        by_cases ek : k = i
        · rw [if_pos ek]
          exact fun n => (hF a n).2.2 j e m
        · rw [if_neg ek]; exact r.dj j k a jk m
    · have m : a ∈ (if j = i then F else Fs j) := m
      by_cases e : j = i
      · rw [if_pos e] at m; exact (hF a m).1
      · rw [if_neg e] at m; exact r.dz j a m
    · have m : a ∈ (if j = i then F else Fs j) := m
      by_cases e : j = i
      · rw [if_pos e] at m; exact (hF a m).2.1
      · rw [if_neg e] at m; exact r.own j a m
    · rw [List.getElem?_set_ne (Ne.symm (hio p m))]; exact r.io p m
  · refine ⟨Fs, ?_⟩
    rw [List.set_eq_of_length_le (show σ.length ≤ i by rw [r.len]; omega), List.set_eq_of_length_le (show env.length ≤ i by omega)]
    exact r
/-- a slot is forgotten -/
theorem Rel.wipes (r : Rel K cs e H Z σ env Fs) (i : Nat) (o : Option V) (hio : ∀ p ∈ e.io, p.1 ≠ i) : ∃ Fs', Rel K cs e H Z (σ.set i o) (env.set i none) Fs' ∧ (∀ j, j ≠ i → Fs' j = Fs j) ∧ Fs' i = [] := by
  refine ⟨fun j => if j = i then [] else Fs j, ?_, fun j h => if_neg h, if_pos rfl⟩
  refine ⟨fun j x q => ?_, fun j q => ?_, fun j => ?_, fun j k a jk m => ?_, fun j a m => ?_, r.za, fun j a m => ?_, r.fr, r.th, r.tb, r.z0, r.z1, fun p m => ?_, r.gs, by simp [r.len]⟩
  · by_cases e : j = i
    · subst e
      rw [List.getElem?_set] at q
      simp at q
    · rw [List.getElem?_set_ne (Ne.symm e)] at q
      obtain ⟨w, h1, h2⟩ := r.slot j x q
      exact ⟨w, by rw [List.getElem?_set_ne (Ne.symm e)]; exact h1, by rw [if_neg e]; exact h2⟩
  · show (if j = i then [] else Fs j) = []
    by_cases e : j = i
    · rw [if_pos e]
    · rw [if_neg e]
      exact r.off j fun x w => q x (by rw [List.getElem?_set_ne (Ne.symm e)]; exact w)
  · show (if j = i then [] else Fs j).Nodup
    by_cases e : j = i
    · rw [if_pos e]; exact List.nodup_nil
    · rw [if_neg e]; exact r.nd j
  · show a ∉ (if k = i then [] else Fs k)
    have m : a ∈ (if j = i then [] else Fs j) := m
    by_cases e : j = i
    · rw [if_pos e] at m; cases m
    · rw [if_neg e] at m
      by_cases ek : k = i
      · rw [if_pos ek]; exact fun n => by cases n
      · rw [if_neg ek]; exact r.dj j k a jk m
  · have m : a ∈ (if j = i then [] else Fs j) := m
    by_cases e : j = i
    · rw [if_pos e] at m; cases m
    · rw [if_neg e] at m; exact r.dz j a m
  · have m : a ∈ (if j = i then [] else Fs j) := m
    by_cases e : j = i
    · rw [if_pos e] at m; cases m
    · rw [if_neg e] at m; exact r.own j a m
  · rw [List.getElem?_set_ne (Ne.symm (hio p m))]; exact r.io p m
/-- an object that no slot has is written -/
theorem Rel.writes (r : Rel K cs e H Z σ env Fs) {p : Addr} {o o' : HO} (hp : H p = some o) (mu : Mu o) (hF : ∀ i, p ∉ Fs i) (hz : ¬ Z p) (h0 : e.W p ∨ e.H0 p = none) : Rel K cs e (upd H p o') Z σ env Fs where
  slot := fun i d q => by
    obtain ⟨v, h1, h2⟩ := r.slot i d q
    refine ⟨v, h1, R.keep (fun _ h => h) d v _ (fun a u e _ k => ?_) h2⟩
    rw [upd_ne]
    · exact e
    · intro z
      subst z
      rw [hp] at e; cases e
      rcases k with k | k | k
      · exact hF i k
      · exact hz k
      · exact k mu.mut
  off := r.off
  nd := r.nd
  dj := r.dj
  dz := r.dz
  za := fun a z => by
    obtain ⟨u, q⟩ := r.za a z
    exact ⟨u, by rw [upd_ne (fun w : a = p => hz (by rw [← w]; exact z))]; exact q⟩
  own := r.own
  th := fun a u h => (r.th a u h).imp_right fun ⟨o2, h2⟩ => by
    by_cases ea : a = p
    · rw [ea]; exact ⟨_, upd_same⟩
    · exact ⟨o2, by rw [upd_ne ea]; exact h2⟩
  tb := tabs_keep r.tb fun b u q n => by rw [upd_ne (fun z => by subst z; rw [hp] at q; cases q; exact n mu)]; exact q
  fr := fun a u h nt w => by
    have ne : a ≠ p := fun z => by
      subst z
      rcases h0 with h0 | h0
      · exact w h0
      · rw [h0] at h; cases h
    rw [upd_ne ne]; exact r.fr a u h nt w
  z0 := r.z0
  z1 := r.z1
  io := r.io
  gs := fun q m => R.keep (fun _ h => h) q.1 q.2 _ (fun a u e _ k => by
    rw [upd_ne]
    · exact e
    · intro z
      subst z
      rw [hp] at e; cases e
      rcases k with k | k | k
      · cases k
      · exact hz k
      · exact k mu.mut) (r.gs q m)
  len := r.len
theorem RL.writes {p : Addr} {o o' : HO} {ds : List D} {vs : List V} {F : List Addr} (h : RL K cs H Z ds vs F) (hp : H p = some o) (mu : Mu o) (hF : p ∉ F) (hz : ¬ Z p) : RL K cs (upd H p o') Z ds vs F :=
  RL.keep (fun _ h => h) ds vs F (fun a u e _ k => by
    rw [upd_ne]
    · exact e
    · intro z
      subst z
      rw [hp] at e; cases e
      rcases k with k | k | k
      · exact hF k
      · exact hz k
      · exact k mu.mut) h
theorem Rel.withgs (r : Rel K cs e H Z σ env Fs) {gs : List (D × V)} (h : ∀ p ∈ gs, R K cs H Z p.1 p.2 []) : Rel K cs { e with gs := gs ++ e.gs } H Z σ env Fs :=
  ⟨r.slot, r.off, r.nd, r.dj, r.dz, r.za, r.own, r.fr, r.th, r.tb, r.z0, r.z1, r.io, fun p m => (List.mem_append.mp m).elim (h p) (r.gs p), r.len⟩
theorem Rel.lessgs {gs : List (D × V)} (r : Rel K cs { e with gs := gs ++ e.gs } H Z σ env Fs) : Rel K cs e H Z σ env Fs :=
  ⟨r.slot, r.off, r.nd, r.dj, r.dz, r.za, r.own, r.fr, r.th, r.tb, r.z0, r.z1, r.io, fun p m => r.gs p (List.mem_append_right _ m), r.len⟩
/-- a fresh part is frozen -/
theorem Ext.frz (r : Rel K cs e H Z σ env Fs) {F : List Addr} (x : Ext cs H H' Z Z') (al : ∀ a ∈ F, ∃ o, H' a = some o) (fre : ∀ a ∈ F, H a = none ∧ ¬ Z' a) : Ext cs H H' Z (fun a => Z' a ∨ a ∈ F) := by
  refine ⟨x.same, fun a z => .inl (x.up a z), fun a z => ?_⟩
  rcases z with z | z
  · exact x.new a z
  · exact .inr ⟨(fre a z).1, al a z⟩
end

/-! ### what is walked -/
def ItOk (K : PySem.W.Frag) (cs : Cs) (J : It) (srcs : List (D × V)) (ds : List D) : Prop :=
  ∃ (G : Hp → Prop) (Y : Nat → Hp → V → Hp → Prop), Walk J ds.length G Y ∧ (∀ H Z, (∀ p ∈ srcs, R K cs H Z p.1 p.2 []) → G H) ∧
    ∀ i H Z x H', i < ds.length → (∀ p ∈ srcs, R K cs H Z p.1 p.2 []) → Y i H x H' → Ext cs H H' Z Z ∧ ∃ d, ds[i]? = some d ∧ R K cs H' Z d x []
def tOfI (K : PySem.W.Frag) (cs : Cs) (t : TAD) : TI := fun σ H Rr => ∃ e env Z Fs, Rel K cs e H Z σ env Fs ∧ ∃ QD, t env QD ∧
  ∀ J H' Z' srcs ds, Ext cs H H' Z Z' → (∀ p ∈ srcs, R K cs H' Z' p.1 p.2 []) → ItOk K cs J srcs ds → QD ds → Rr J H'
structure VI (X : Cx) (cs : Cs) (tg iter : Expr) (t : TAD) : Prop where
  run : PI X tg iter (tOfI X.K cs t)
theorem pi_weak {X : Cx} {tg e : Expr} {t t' : TI} (h : PI X tg e t) (w : ∀ σ H Q, t' σ H Q → t σ H Q) : PI X tg e t' := ⟨fun pins s σ H Q I q => h.run pins s σ H Q I (w σ H Q q)⟩
section
variable {X : Cx} {cs : Cs} {tg a b c : Expr} {pos : Pos} {ta tb : TED}
theorem itl_ok {pins : List (Addr × Obj)} {σ : St} {H : Hp} {s : Shared} {Rr : It → Hp → Prop} {p : Addr} {xs : List V} (I : Inv X pins σ H s) (hq : SqL X.K H p xs) (q : Rr (Itl X.K p) H) :
    wpAny (model X.prog X.w) X.A (pyIter (.ref p)) (PIE X pins σ tg Rr) X.xe s := by
  obtain ⟨its, rv, pl, hz⟩ := I.list hq
  exact wpAny_pyIter_list pl.isList (pi_one (tk := s.toks) I _ (turn_list p _) ⟨_, Heap.get?_push_size _ rfl, rfl, rfl⟩ q)
theorem itt_ok {pins : List (Addr × Obj)} {σ : St} {H : Hp} {s : Shared} {Rr : It → Hp → Prop} {p : Addr} {xs : List V} (I : Inv X pins σ H s) (hq : SqT X.K H p xs) (q : Rr (Itt X.K p) H) :
    wpAny (model X.prog X.w) X.A (pyIter (.ref p)) (PIE X pins σ tg Rr) X.xe s := by
  obtain ⟨its, rv, pl, hz⟩ := I.tuple hq
  exact wpAny_pyIter_tuple (show s.heap.IsTuple p its.toArray from pl) (pi_one (tk := s.toks) I _ (turn_tuple p _) ⟨_, Heap.get?_push_size _ rfl, rfl, rfl⟩ q)
theorem its_ok {pins : List (Addr × Obj)} {σ : St} {H : Hp} {s : Shared} {Rr : It → Hp → Prop} {z : Str} {t : Tok} (I : Inv X pins σ H s) (q : Rr (Its z) H) :
    wpAny (model X.prog X.w) X.A (pyIter (.str z t)) (PIE X pins σ tg Rr) X.xe s := by
  by_cases hw : z.cps.all (· < 128) = true
  · exact wpAny_pyIter_ascii hw (pi_one (tk := s.toks) I _ (turn_str _ z t _ (.inl rfl)) ⟨_, Heap.get?_push_size _ rfl, rfl, rfl⟩ q)
  · exact wpAny_pyIter_wide (Bool.not_eq_true _ ▸ hw) (pi_one (tk := s.toks) I _ (turn_str _ z t _ (.inr rfl)) ⟨_, Heap.get?_push_size _ rfl, rfl, rfl⟩ q)
def signsD (z : Str) : List D := z.cps.toList.map fun c => .str ⟨#[c]⟩
def seqD : D → (List D → Prop) → Prop
  | .lst _ xs, Q => Q (frzL xs)
  | .tup xs, Q => Q (frzL xs)
  | .str z, Q => Q (signsD z)
  | _, _ => False
def it_ (ta : TED) : TAD := fun env Q => ta env fun d => seqD d Q
theorem itok_src {K : PySem.W.Frag} {J : It} {G : Hp → Prop} {Y : Nat → Hp → V → Hp → Prop} {d : D} {v : V} {ds : List D} {vs : List V} (w : Walk J ds.length G Y)
    (hG : ∀ H Z, R K cs H Z d v [] → G H ∧ ∀ i H' x, Y i H x H' → H' = H ∧ ∃ d', ds[i]? = some d' ∧ R K cs H Z d' x []) : ItOk K cs J [(d, v)] ds := by
  refine ⟨G, Y, w, fun H Z q => (hG H Z (q (d, v) (by simp))).1, fun i H Z x H' hi q y => ?_⟩
  obtain ⟨rfl, d', h1, h2⟩ := (hG H Z (q (d, v) (by simp))).2 i H' x y
  exact ⟨Ext.refl _ _, d', h1, h2⟩
theorem vi_seq (ha : VT X cs a ta) : VI X cs tg a (it_ ta) := by
  refine ⟨⟨fun pins s σ H Rr I h => ?_⟩⟩
  obtain ⟨e, env, Z, Fs, rl, QD, q, k⟩ := h
  refine thn (ha.run.run pins s σ H (fun v H1 => ∃ Z1 d F, Ext cs H H1 Z Z1 ∧ R X.K cs H1 Z1 d v F ∧ (∀ a ∈ F, H a = none ∧ ¬ Z1 a) ∧ seqD d QD) I ⟨e, env, Z, Fs, rl, _, q, fun v H1 Z1 d F x r _ fre z => ⟨Z1, d, F, x, r, fre, z⟩⟩) fun v s1 ⟨x, H1, I1, r1, Z1, d, F, ex, r, fre, z⟩ => ?_
  have al := R.alloc d x F r
  have ex2 := Ext.frz rl ex al fre
  have rf : R X.K cs H1 (fun a => Z1 a ∨ a ∈ F) (frz d) x [] := R.fr (fun _ h => .inl h) d x F (fun _ m => .inr m) r
  cases d with
  | lst m xs =>
    obtain ⟨p, vs, F', rfl, t, rr, _⟩ := R.lstv rf
    cases r1
    refine itl_ok I1 t (k _ H1 _ [(frz (.lst m xs), .ref p)] (frzL xs) ex2 (fun q mq => ?_) (itok_src (vs := vs) (G := fun H => ∃ ys, ys.length = xs.length ∧ SqL X.K H p ys) (Y := fun i H x H' => H' = H ∧ ∃ ys, SqL X.K H p ys ∧ ys.length = xs.length ∧ ∀ ys, SqL X.K H p ys → ys[i]? = some x) ?_ fun H Z q => ?_) z)
    · have e : q = (frz (.lst m xs), .ref p) := by simpa using mq
      rw [e]; exact rf
    · rw [frzL_map, List.length_map]
      refine ⟨fun i H hi ⟨ys, l, q⟩ => ⟨ys, ys[i]'(by omega), q, by simp [show i < ys.length by omega]⟩, fun H ⟨ys, l, q⟩ => ⟨ys, q, by omega⟩, fun i H x H' hi ⟨ys, l, q⟩ y => ⟨y.1, ys, q, l, y.2⟩⟩
    · obtain ⟨p', ws, F'', e', t', r', _⟩ := R.lstv q
      cases e'
      have l' : ws.length = xs.length := by rw [r'.len, frzL_map, List.length_map]
      refine ⟨⟨ws, l', t'⟩, fun i H' x ⟨e1, ys, h1, h2, h3⟩ => ⟨e1, ?_⟩⟩
      have hx := h3 ws t'
      have hi : i < (frzL xs).length := by rw [← r'.len]; exact (List.getElem?_eq_some_iff.mp hx).1
      refine ⟨(frzL xs)[i], by simp [hi], ?_⟩
      have n0 : RL X.K cs H Z (frzL xs) ws [] := RL.noF0 r' (frzL_noOwn xs)
      exact RL.get0 n0 (by simp [hi]) hx
  | tup xs =>
    obtain ⟨p, vs, rfl, t, rr⟩ := R.tupv rf
    cases r1
    refine itt_ok I1 t (k _ H1 _ [(frz (.tup xs), .ref p)] (frzL xs) ex2 (fun q mq => ?_) (itok_src (vs := vs) (G := fun H => ∃ ys, ys.length = xs.length ∧ SqT X.K H p ys) (Y := fun i H x H' => H' = H ∧ ∃ ys, SqT X.K H p ys ∧ ys.length = xs.length ∧ ∀ ys, SqT X.K H p ys → ys[i]? = some x) ?_ fun H Z q => ?_) z)
    · have e : q = (frz (.tup xs), .ref p) := by simpa using mq
      rw [e]; exact rf
    · rw [frzL_map, List.length_map]
      refine ⟨fun i H hi ⟨ys, l, q⟩ => ⟨ys, ys[i]'(by omega), q, by simp [show i < ys.length by omega]⟩, fun H ⟨ys, l, q⟩ => ⟨ys, q, by omega⟩, fun i H x H' hi ⟨ys, l, q⟩ y => ⟨y.1, ys, q, l, y.2⟩⟩
    · obtain ⟨p', ws, e', t', r'⟩ := R.tupv q
      cases e'
      have l' : ws.length = xs.length := by rw [r'.len, frzL_map, List.length_map]
      refine ⟨⟨ws, l', t'⟩, fun i H' x ⟨e1, ys, h1, h2, h3⟩ => ⟨e1, ?_⟩⟩
      have hx := h3 ws t'
      have hi : i < (frzL xs).length := by rw [← r'.len]; exact (List.getElem?_eq_some_iff.mp hx).1
      refine ⟨(frzL xs)[i], by simp [hi], ?_⟩
      exact RL.get0 r' (by simp [hi]) hx
  | str z0 =>
    have e1 : x = .str z0 := r.1
    subst e1
    obtain ⟨t, rfl⟩ := r1
    refine its_ok I1 (k _ H1 Z1 [] (signsD z0) ex (fun q m => by cases m) ⟨fun _ => True, _, (by unfold signsD; rw [List.length_map, Array.length_toList]; exact walk_str), fun _ _ _ => trivial, fun i H Z x H' hi _ y => ?_⟩ z)
    obtain ⟨rfl, c, h1, rfl⟩ := y
    exact ⟨Ext.refl _ _, .str ⟨#[c]⟩, by unfold signsD; simp [h1], ⟨rfl, rfl⟩⟩
  | _ => exact False.elim z
/-- range -/
def rngD (lo : Int) (n : Nat) : List D := (List.range n).map fun i => .int (lo + (i : Nat))
def rng1_ (u : TAD) : TAD := fun env Q => u env fun ds => one_ (fun d _ => match d with | .int j => -(2 ^ 62) ≤ j ∧ j < 2 ^ 62 ∧ Q (rngD 0 j.toNat) | _ => False) ds fun _ => True
def rng2_ (u : TAD) : TAD := fun env Q => u env fun ds => two_ (fun d e _ => match d, e with | .int i, .int j => (-(2 ^ 62) ≤ i ∧ i < 2 ^ 62 ∧ -(2 ^ 62) ≤ j ∧ j < 2 ^ 62) ∧ Q (rngD i (j - i).toNat) | _, _ => False) ds fun _ => True
theorem itok_rng {K : PySem.W.Frag} {lo : Int} {n : Nat} : ItOk K cs (Itr lo n) [] (rngD lo n) := by
  refine ⟨fun _ => True, _, (by unfold rngD; rw [List.length_map, List.length_range]; exact walk_range), fun _ _ _ => trivial, fun i H Z x H' hi _ y => ?_⟩
  obtain ⟨rfl, rfl⟩ := y
  have hi' : i < n := by unfold rngD at hi; rw [List.length_map, List.length_range] at hi; exact hi
  exact ⟨Ext.refl _ _, .int (lo + i), by unfold rngD; simp [hi'], ⟨rfl, rfl⟩⟩
theorem vi_rng1 {u : TAD} {p : Pos} (hg : Gl X "range") (hm : X.mg "range" = none) (ha : VAr X cs [a] u) (hs : starEach [a] X.env = [(false, eval a X.env)] := by rfl) : VI X cs tg (.Call (.Name "range" p) [a] [] pos) (rng1_ u) :=
  ⟨pi_weak (pi_range1 hg hm ha.run hs) fun σ H Q ⟨e, env, Z, Fs, rl, QD, q, k⟩ => ⟨e, env, Z, Fs, rl, _, q, fun vs H1 Z1 ds F x1 rv q1 => by
    cases ds with
    | nil => exact False.elim q1
    | cons d t =>
      cases t with
      | cons _ _ => exact False.elim q1
      | nil =>
        obtain ⟨v, rfl, rv'⟩ := RL.one1 rv
        cases d with
        | int j =>
          obtain ⟨h1, h2, q1⟩ := q1
          cases rv'.1
          exact ⟨j, rfl, h1, h2, k _ H1 Z1 [] _ x1 (fun p m => by cases m) itok_rng q1⟩
        | _ => exact False.elim q1⟩⟩
theorem vi_rng2 {u : TAD} {p : Pos} (hg : Gl X "range") (hm : X.mg "range" = none) (ha : VAr X cs [a, b] u) (hs : starEach [a, b] X.env = [(false, eval a X.env), (false, eval b X.env)] := by rfl) (hs2 : starEach [b] X.env = [(false, eval b X.env)] := by rfl) :
    VI X cs tg (.Call (.Name "range" p) [a, b] [] pos) (rng2_ u) :=
  ⟨pi_weak (pi_range2 hg hm ha.run hs hs2) fun σ H Q ⟨e, env, Z, Fs, rl, QD, q, k⟩ => ⟨e, env, Z, Fs, rl, _, q, fun vs H1 Z1 ds F x1 rv q1 => by
    cases ds with
    | nil => exact False.elim q1
    | cons d t =>
      cases t with
      | nil => exact False.elim q1
      | cons d2 t =>
        cases t with
        | cons _ _ => exact False.elim q1
        | nil =>
          obtain ⟨v, w, G1, G2, rfl, r1, r2⟩ := RL.two rv
          cases d with
          | int i =>
            cases d2 with
            | int j =>
              obtain ⟨h1, q1⟩ := q1
              cases r1.1; cases r2.1
              exact ⟨i, j, rfl, h1, k _ H1 Z1 [] _ x1 (fun p m => by cases m) itok_rng q1⟩
            | _ => exact False.elim q1
          | _ => exact False.elim q1⟩⟩
end

/-! ### statements -/
structure EndsOk (K : PySem.W.Frag) (cs : Cs) (e : En) (E : EndsD) (Dh : Ends) : Prop where
  nx : ∀ σ H Z env Fs, Rel K cs e H Z σ env Fs → E.nx env → Dh.nx σ H
  bk : ∀ σ H Z env Fs, Rel K cs e H Z σ env Fs → E.bk env → Dh.bk σ H
  ct : ∀ σ H Z env Fs, Rel K cs e H Z σ env Fs → E.ct env → Dh.ct σ H
  rt : ∀ v σ H Z env Fs r F, Rel K cs e H Z σ env Fs → R K cs H Z r v F → F.Nodup → (∀ a ∈ F, ¬ Z a ∧ (e.W a ∨ e.H0 a = none) ∧ ∀ i, a ∉ Fs i) → E.rt r env → Dh.rt v H
def tSOf (K : PySem.W.Frag) (cs : Cs) (e : En) (t : TSD) : TS := fun Dh σ H => ∃ env Z Fs E, Rel K cs e H Z σ env Fs ∧ t E env ∧ EndsOk K cs e E Dh
structure VS (X : Cx) (cs : Cs) (L : List Nat) (st : Stmt) (t : TSD) : Prop where
  run : ∀ e : En, (∀ p ∈ e.io, p.1 ∈ L) → PS X st (tSOf X.K cs e t)
structure VSs (X : Cx) (cs : Cs) (L : List Nat) (st : List Stmt) (t : TSD) : Prop where
  run : ∀ e : En, (∀ p ∈ e.io, p.1 ∈ L) → PSs X st (tSOf X.K cs e t)
section
variable {X : Cx} {cs : Cs} {L : List Nat} {a b c : Expr} {pos : Pos} {ta tb : TED} {st : Stmt} {sts body : List Stmt} {t u : TSD}
def nx_ : TSD := fun E env => E.nx env
def sq_ (t u : TSD) : TSD := fun E env => ∃ Rr : Env → Prop, t { E with nx := Rr } env ∧ ∀ env', Rr env' → u E env'
theorem vss_nil : VSs X cs L [] nx_ := ⟨fun e _ => pss_weak pss_nil fun D σ H ⟨env, Z, Fs, E, rl, q, ok⟩ => ok.nx σ H Z env Fs rl q⟩
theorem vss_cons (h1 : VS X cs L st t) (h2 : VSs X cs L sts u) : VSs X cs L (st :: sts) (sq_ t u) :=
  ⟨fun e hL => pss_weak (pss_cons (h1.run e hL) (h2.run e hL)) fun D σ H ⟨env, Z, Fs, E, rl, ⟨Rr, q1, q2⟩, ok⟩ =>
    ⟨env, Z, Fs, { E with nx := Rr }, rl, q1, fun σ' H' Z' env' Fs' rl' h => ⟨env', Z', Fs', E, rl', q2 env' h, ok⟩, ok.bk, ok.ct, ok.rt⟩⟩
theorem vss_one (h1 : VS X cs L st t) : VSs X cs L [st] t := ⟨fun e hL => pss_one (h1.run e hL)⟩
theorem vs_pass : VS X cs L (.Pass pos) nx_ := ⟨fun e _ => ps_weak ps_pass fun D σ H ⟨env, Z, Fs, E, rl, q, ok⟩ => ok.nx σ H Z env Fs rl q⟩
def bk_ : TSD := fun E env => E.bk env
def ct_ : TSD := fun E env => E.ct env
theorem vs_break : VS X cs L (.Break pos) bk_ := ⟨fun e _ => ps_weak ps_break fun D σ H ⟨env, Z, Fs, E, rl, q, ok⟩ => ok.bk σ H Z env Fs rl q⟩
theorem vs_continue : VS X cs L (.Continue pos) ct_ := ⟨fun e _ => ps_weak ps_continue fun D σ H ⟨env, Z, Fs, E, rl, q, ok⟩ => ok.ct σ H Z env Fs rl q⟩
def ifs_ (c : TTD) (t u : TSD) : TSD := fun E env => c env fun b => (b = true → t E env) ∧ (b = false → u E env)
theorem vs_if {tc : TTD} {s1 s2 : List Stmt} (hc : VB X cs c tc) (ha : VSs X cs L s1 t) (hb : VSs X cs L s2 u) : VS X cs L (.If c s1 s2 pos) (ifs_ tc t u) :=
  ⟨fun e hL => ps_weak (ps_if hc.run (ha.run e hL) (hb.run e hL)) fun D σ H ⟨env, Z, Fs, E, rl, q, ok⟩ => ⟨e, env, Z, Fs, rl, _, q, fun b H' Z' x z => by
    cases b with
    | true => rw [if_pos rfl]; exact ⟨env, Z', Fs, E, rl.ext x, z.1 rfl, ok⟩
    | false => rw [if_neg Bool.false_ne_true]; exact ⟨env, Z', Fs, E, rl.ext x, z.2 rfl, ok⟩⟩⟩
def ex_ (ta : TED) : TSD := fun E env => ta env fun _ => E.nx env
theorem vs_expr (ha : VP X cs a ta) (hs : swapsWith a none pos.line X.env = pure false := by rfl) : VS X cs L (.Expr a pos) (ex_ ta) :=
  ⟨fun e hL => ps_weak (ps_expr ha.run hs) fun D σ H ⟨env, Z, Fs, E, rl, q, ok⟩ => ⟨e, env, Z, Fs, rl, _, q, fun v H' Z' d F x r z => ok.nx σ H' Z' env Fs (rl.ext x) z⟩⟩
def set_ (i : Nat) (ta : TED) : TSD := fun E env => ta env fun d => E.nx (env.set i (some d))
theorem Rel.put {e : En} {H H' : Hp} {Z Z' : Addr → Prop} {σ : St} {env : Env} {Fs : Nat → List Addr} {d : D} {v : V} {F : List Addr} {K : PySem.W.Frag} (rl : Rel K cs e H Z σ env Fs) (x : Ext cs H H' Z Z') (r : R K cs H' Z' d v F) (nd : F.Nodup) (fre : ∀ a ∈ F, H a = none ∧ ¬ Z' a)
    (i : Nat) (hio : ∀ p ∈ e.io, p.1 ≠ i) : ∃ Fs', Rel K cs e H' Z' (σ.set i (some v)) (env.set i (some d)) Fs' :=
  (rl.ext x).sets r nd (fun a m => ⟨(fre a m).2, rl.free0 (fre a m).1, fun j _ w => by
    obtain ⟨o, q⟩ := rl.alloc w
    rw [(fre a m).1] at q; cases q⟩) hio
theorem vs_set (i : Nat) {x : Str} {pos' : Pos} (ha : VT X cs a ta) (hN : X.N.Nodup) (hi : X.N[i]? = some x := by rfl) (hx : Loc X.env.scope x := by first | exact .inl rfl | exact .inr rfl) (hL : i ∉ L := by decide) (hs : swapsWith a (some (.Name x pos')) pos.line X.env = pure false := by rfl)
    (hf : X.fn x = true ∨ X.env.scope.names.lookup x = some .local := by first | exact .inl rfl | exact .inr rfl | assumption) : VS X cs L (.Assign [.Name x pos'] a pos) (set_ i ta) :=
  ⟨fun e hl => ps_weak (ps_set hN hi hx ha.run hs hf) fun D σ H ⟨env, Z, Fs, E, rl, q, ok⟩ => ⟨e, env, Z, Fs, rl, _, q, fun v H' Z' d F x r nd fre z => by
    obtain ⟨Fs', rl'⟩ := rl.put x r nd fre i fun p m w => hL (w ▸ hl p m)
    exact ok.nx _ H' Z' _ Fs' rl' z⟩⟩
def ret_ (ta : TED) : TSD := fun E env => ta env fun d => E.rt d env
theorem vs_ret (ha : VT X cs a ta) : VS X cs L (.Return (some a) pos) (ret_ ta) :=
  ⟨fun e hl => ps_weak (ps_ret ha.run) fun D σ H ⟨env, Z, Fs, E, rl, q, ok⟩ => ⟨e, env, Z, Fs, rl, _, q, fun v H' Z' d F x r nd fre z =>
    ok.rt v σ H' Z' env Fs d F (rl.ext x) r nd (fun a m => ⟨(fre a m).2, rl.free0 (fre a m).1, fun j w => by
      obtain ⟨o, q⟩ := rl.alloc w
      rw [(fre a m).1] at q; cases q⟩) z⟩⟩
def retn_ : TSD := fun E env => E.rt .non env
theorem vs_retN : VS X cs L (.Return none pos) retn_ :=
  ⟨fun e hl => ps_weak ps_retN fun D σ H ⟨env, Z, Fs, E, rl, q, ok⟩ => ok.rt .non σ H Z env Fs .non [] rl ⟨rfl, rfl⟩ List.nodup_nil (fun a m => by cases m) q⟩
/-- return of names and fresh values in a tuple or a list: the names are handed away -/
def wipeD (env : Env) : List Nat → Env
  | [] => env
  | i :: is => (wipeD env is).set i none
theorem Rel.wipeAll {K : PySem.W.Frag} {e : En} {H : Hp} {Z : Addr → Prop} {σ : St} {env : Env} {Fs : Nat → List Addr} (r : Rel K cs e H Z σ env Fs) : ∀ (mv : List Nat), (∀ p ∈ e.io, p.1 ∉ mv) →
    ∃ Fs' σ', Rel K cs e H Z σ' (wipeD env mv) Fs' ∧ ∀ j, if j ∈ mv then Fs' j = [] else Fs' j = Fs j
  | [], _ => ⟨Fs, σ, r, fun j => by rw [if_neg (by simp)]⟩
  | i :: is, h => by
    obtain ⟨F1, σ1, r1, h1⟩ := Rel.wipeAll r is fun p m w => h p m (List.mem_cons_of_mem _ w)
    obtain ⟨F2, r2, h2, h3⟩ := r1.wipes i (none : Option V) fun p m w => h p m (by rw [w]; exact List.mem_cons_self)
    refine ⟨F2, _, r2, fun j => ?_⟩
    by_cases e : j = i
    · subst e
      rw [if_pos (by simp)]; exact h3
    · have h1j := h1 j
      rw [h2 j e]
      by_cases m : j ∈ is
      · rw [if_pos m] at h1j; rw [if_pos (by simp [m])]; exact h1j
      · rw [if_neg m] at h1j; rw [if_neg (by simp [m, e])]; exact h1j
def retm_ (f : List D → D) (mv : List Nat) (u : TAD) : TSD := fun E env => u env fun ds => ds.length ≤ sizeLine ∧ E.rt (f ds) (wipeD env mv)
theorem mv_free {K : PySem.W.Frag} {e : En} {H : Hp} {Z Z' : Addr → Prop} {σ : St} {env : Env} {Fs Fs' : Nat → List Addr} {F : List Addr} {mv : List Nat} (rl : Rel K cs e H Z σ env Fs) (h : ∀ j, if j ∈ mv then Fs' j = [] else Fs' j = Fs j)
    (fre : ∀ a ∈ F, ¬ Z' a ∧ (H a = none ∨ ∃ i ∈ mv, a ∈ Fs i)) : ∀ a ∈ F, ¬ Z' a ∧ (e.W a ∨ e.H0 a = none) ∧ ∀ j, a ∉ Fs' j := fun a m => by
  refine ⟨(fre a m).1, ?_, fun j w => ?_⟩
  · rcases (fre a m).2 with z | ⟨i, _, z⟩
    · exact rl.free0 z
    · exact rl.own i a z
  · have hj := h j
    by_cases mj : j ∈ mv
    · rw [if_pos mj] at hj; rw [hj] at w; cases w
    · rw [if_neg mj] at hj; rw [hj] at w
      rcases (fre a m).2 with z | ⟨i, mi, z⟩
      · obtain ⟨o, q⟩ := rl.alloc w
        rw [z] at q; cases q
      · exact rl.dj i j a (fun q => mj (q ▸ mi)) z w
theorem vs_rettup {es : List Expr} {mv : List Nat} {u : TAD} {k0 : Nat} {tp : Pos} (h : VM X cs mv es u) (hL : ∀ i ∈ mv, i ∉ L := by decide) : VS X cs L (.Return (some (.Tuple es k0 tp)) pos) (retm_ .tup mv u) :=
  ⟨fun e hl => ps_weak (ps_ret (pe_tup h.run)) fun D σ H ⟨env, Z, Fs, E, rl, q, ok⟩ => ⟨e, env, Z, Fs, rl, _, q, fun vs H' Z' ds F x r nd fre z => ⟨by rw [r.len]; exact z.1, fun p hp => by
    have x2 : Ext cs H' (upd H' p (.tup vs)) Z' Z' := Ext.of (same_upd hp)
    obtain ⟨Fs', σ', rl', h'⟩ := Rel.wipeAll ((rl.ext x).ext x2) mv fun p m w => hL _ w (hl p m)
    exact ok.rt _ σ' _ Z' _ Fs' (.tup ds) F rl' (fresh_tup hp r) nd (mv_free rl h' fre) z.2⟩⟩⟩
theorem vs_retlst {es : List Expr} {mv : List Nat} {u : TAD} {tp : Pos} (h : VM X cs mv es u) (hL : ∀ i ∈ mv, i ∉ L := by decide) : VS X cs L (.Return (some (.List es tp)) pos) (retm_ (.lst true) mv u) :=
  ⟨fun e hl => ps_weak (ps_ret (pe_lst h.run)) fun D σ H ⟨env, Z, Fs, E, rl, q, ok⟩ => ⟨e, env, Z, Fs, rl, _, q, fun vs H' Z' ds F x r nd fre z => ⟨by rw [r.len]; exact z.1, fun p hp => by
    have x2 : Ext cs H' (upd H' p (.lst vs)) Z' Z' := Ext.of (same_upd hp)
    obtain ⟨Fs', σ', rl', h'⟩ := Rel.wipeAll ((rl.ext x).ext x2) mv fun p m w => hL _ w (hl p m)
    refine ok.rt _ σ' _ Z' _ Fs' (.lst true ds) (p :: F) rl' (fresh_lst hp r) (List.nodup_cons.mpr ⟨fun m => ?_, nd⟩) (fun a m => ?_) z.2
    · obtain ⟨o, w⟩ := RL.alloc ds vs F r p m
      rw [hp] at w; cases w
    · rcases List.mem_cons.mp m with rfl | m
      · refine ⟨(rl.ext x).nz hp, (rl.ext x).free0 hp, fun j w => ?_⟩
        have hj := h' j
        by_cases mj : j ∈ mv
        · rw [if_pos mj] at hj; rw [hj] at w; cases w
        · rw [if_neg mj] at hj; rw [hj] at w
          obtain ⟨o, q⟩ := (rl.ext x).alloc w
          rw [hp] at q; cases q
      · exact mv_free rl h' fre a m⟩⟩⟩
/-- return of a name -/
def retv_ (i : Nat) : TSD := fun E env => ∃ d, env[i]? = some (some d) ∧ E.rt d (env.set i none)
theorem vs_retv (i : Nat) {x : Str} {p : Pos} (hN : X.N[i]? = some x := by rfl) (hL : i ∉ L := by decide) (hv : Vis X.env.scope x := by first | exact Or.inl rfl | exact Or.inr (Or.inl rfl) | exact Or.inr (Or.inr rfl)) (hd : (x == ("__debug__" : Str)) = false := by decide)
    (hcd : (x == ("__classdict__" : Str)) = false := by decide) : VS X cs L (.Return (some (.Name x p)) pos) (retv_ i) :=
  ⟨fun e hl => ps_weak (ps_ret (pe_var hN hv hd hcd)) fun D σ H ⟨env, Z, Fs, E, rl, ⟨d, hd, q⟩, ok⟩ => by
    obtain ⟨v, h1, h2⟩ := rl.slot i d hd
    obtain ⟨Fs', rl', h3, h4⟩ := rl.wipes i (none : Option V) fun p m w => hL (w ▸ hl p m)
    refine ⟨v, h1, ok.rt v _ H Z _ Fs' d (Fs i) rl' h2 (rl.nd i) (fun a m => ⟨rl.dz i a m, rl.own i a m, fun j w => ?_⟩) q⟩
    by_cases e : j = i
    · rw [e, h4] at w; cases w
    · rw [h3 j e] at w; exact rl.dj i j a (Ne.symm e) m w⟩
/-- a slot's datum is frozen (a step of the proof alone) -/
def frz_ (i : Nat) (t : TSD) : TSD := fun E env => ∃ d, env[i]? = some (some d) ∧ t E (env.set i (some (frz d)))
theorem Rel.freeze {K : PySem.W.Frag} {e : En} {H : Hp} {Z : Addr → Prop} {σ : St} {env : Env} {Fs : Nat → List Addr} {i : Nat} {d : D} (r : Rel K cs e H Z σ env Fs) (hd : env[i]? = some (some d)) (hio : ∀ p ∈ e.io, p.1 ≠ i) :
    ∃ Fs', Rel K cs e H (fun a => Z a ∨ a ∈ Fs i) σ (env.set i (some (frz d))) Fs' := by
  have hi : i < env.length := (List.getElem?_eq_some_iff.mp hd).1
  obtain ⟨v, hv, rv⟩ := r.slot i d hd
  refine ⟨fun j => if j = i then [] else Fs j, ?_⟩
  refine ⟨fun j x q => ?_, fun j q => ?_, fun j => ?_, fun j k a jk m => ?_, fun j a m => ?_, fun a z => ?_, fun j a m => ?_, r.fr, r.th, r.tb, fun a z => .inl (r.z0 a z), fun a z => ?_, r.io, fun p m => R.keep (fun _ h => .inl h) _ _ _ (fun a o e _ _ => e) (r.gs p m), by simp [r.len]⟩
  · by_cases e : j = i
    · subst e
      rw [List.getElem?_set_self hi] at q
      cases q
      exact ⟨v, hv, by rw [if_pos rfl]; exact R.fr (fun _ h => .inl h) d v _ (fun _ m => .inr m) rv⟩
    · rw [List.getElem?_set_ne (Ne.symm e)] at q
      obtain ⟨w, h1, h2⟩ := r.slot j x q
      exact ⟨w, h1, by rw [if_neg e]; exact R.keep (fun _ h => .inl h) _ _ _ (fun a o e _ _ => e) h2⟩
  · show (if j = i then [] else Fs j) = []
    by_cases e : j = i
    · rw [if_pos e]
    · rw [if_neg e]
      exact r.off j fun x w => q x (by rw [List.getElem?_set_ne (Ne.symm e)]; exact w)
  · show (if j = i then [] else Fs j).Nodup
    by_cases e : j = i
    · rw [if_pos e]; exact List.nodup_nil
    · rw [if_neg e]; exact r.nd j
  · show a ∉ (if k = i then [] else Fs k)
    have m : a ∈ (if j = i then [] else Fs j) := m
    by_cases e : j = i
    · rw [if_pos e] at m; cases m
    · rw [if_neg e] at m
      by_cases ek : k = i
      · rw [if_pos ek]; exact fun n => by cases n
      · rw [if_neg ek]; exact r.dj j k a jk m
  · have m : a ∈ (if j = i then [] else Fs j) := m
    by_cases e : j = i
    · rw [if_pos e] at m; cases m
    · rw [if_neg e] at m
      intro z
      rcases z with z | z
      · exact r.dz j a m z
      · exact r.dj j i a e m z
  · rcases z with z | z
    · exact r.za a z
    · exact r.alloc z
  · have m : a ∈ (if j = i then [] else Fs j) := m
    by_cases e : j = i
    · rw [if_pos e] at m; cases m
    · rw [if_neg e] at m; exact r.own j a m
  · rcases z with z | z
    · exact r.z1 a z
    · rcases r.own i a z with w | w
      · exact .inr (.inr w)
      · exact .inr (.inl w)
theorem vss_frz (i : Nat) (h : VSs X cs L sts t) (hL : i ∉ L := by decide) : VSs X cs L sts (frz_ i t) :=
  ⟨fun e hl => pss_weak (h.run e hl) fun D σ H ⟨env, Z, Fs, E, rl, ⟨d, hd, q⟩, ok⟩ => by
    obtain ⟨Fs', rl'⟩ := rl.freeze hd fun p m w => hL (w ▸ hl p m)
    exact ⟨_, _, Fs', E, rl', q, ok⟩⟩
theorem vs_frz (i : Nat) (h : VS X cs L st t) (hL : i ∉ L := by decide) : VS X cs L st (frz_ i t) :=
  ⟨fun e hl => ps_weak (h.run e hl) fun D σ H ⟨env, Z, Fs, E, rl, ⟨d, hd, q⟩, ok⟩ => by
    obtain ⟨Fs', rl'⟩ := rl.freeze hd fun p m w => hL (w ▸ hl p m)
    exact ⟨_, _, Fs', E, rl', q, ok⟩⟩
theorem set_id {α : Type} {l : List α} {i : Nat} {x : α} (h : l[i]? = some x) : l.set i x = l := by
  apply List.ext_getElem?
  intro j
  by_cases e : j = i
  · subst e
    rw [h, List.getElem?_set_self (List.getElem?_eq_some_iff.mp h).1]
  · rw [List.getElem?_set_ne (Ne.symm e)]
/-- x.append(e) -/
def app_ (i : Nat) (ta : TED) : TSD := fun E env => ∃ xs, env[i]? = some (some (.lst true xs)) ∧ xs.length < sizeLine ∧ ta env fun d => E.nx (env.set i (some (.lst true (xs ++ [d]))))
theorem vs_app (i : Nat) (h : PE X a (tBM X.K "list" rAppend (tVar i) (tCons (tOfT X.K cs ta) tNil))) (hL : i ∉ L := by decide) (hs : swapsWith a none pos.line X.env = pure false := by rfl) : VS X cs L (.Expr a pos) (app_ i ta) :=
  ⟨fun e hl => ps_weak (ps_expr h hs) fun D σ H ⟨env, Z, Fs, E, rl, ⟨xs, hx, hz, q⟩, ok⟩ => by
    obtain ⟨v, h1, h2⟩ := rl.slot i _ hx
    obtain ⟨p, vs, F', rfl, t, r, hF⟩ := h2
    refine ⟨_, h1, .inl ⟨rfl, vs, SqL.of t⟩, e, env, Z, Fs, rl, _, q, fun w H' Z' d F x rw nd fre z => ⟨p, vs, w, rfl, rfl, x.same.at t, by rw [r.len]; exact hz, ?_⟩⟩
    have rl' := rl.ext x
    have mp : p ∈ Fs i := by rw [hF]; exact List.mem_cons_self
    have npF : p ∉ F := fun m => by
      have := (fre p m).1
      rw [t] at this; cases this
    have npF' : p ∉ F' := fun m => by
      have := rl.nd i
      rw [hF] at this
      exact (List.nodup_cons.mp this).1 m
    -- the slot is forgotten, the list written, the slot set anew
    obtain ⟨Fs1, rl1, k1, k2⟩ := rl'.wipes i (some (.ref p)) fun q m w => hL (w ▸ hl q m)
    have nFs : ∀ j, p ∉ Fs1 j := fun j m => by
      by_cases ej : j = i
      · rw [ej, k2] at m; cases m
      · rw [k1 j ej] at m
        exact rl.dj j i p ej m mp
    have t' := x.same.at t
    have rl2 := rl1.writes (o' := .lst (vs ++ [w])) t' trivial nFs (rl'.dz i p mp) (rl.own i p mp)
    have r1 : RL X.K cs (upd H' p (.lst (vs ++ [w]))) Z' (xs ++ [d]) (vs ++ [w]) (F' ++ F) :=
      RL.writes (RL.app (r.ext x) (RL.one rw)) t' trivial (fun m => (List.mem_append.mp m).elim npF' npF) (rl'.dz i p mp)
    have hnd : (p :: (F' ++ F)).Nodup := by
      have ndi := rl.nd i
      rw [hF] at ndi
      exact List.nodup_cons.mpr ⟨fun m => (List.mem_append.mp m).elim npF' npF, List.nodup_append.mpr ⟨(List.nodup_cons.mp ndi).2, nd, fun a m b n e => by
        subst e
        obtain ⟨o, w⟩ := rl.alloc (i := i) (a := a) (by rw [hF]; exact List.mem_cons_of_mem _ m)
        rw [(fre a n).1] at w; cases w⟩⟩
    have hall : ∀ a ∈ p :: (F' ++ F), ¬ Z' a ∧ (e.W a ∨ e.H0 a = none) ∧ ∀ j, j ≠ i → a ∉ Fs1 j := fun a m => by
      have inI : a ∈ Fs i → ¬ Z' a ∧ (e.W a ∨ e.H0 a = none) ∧ ∀ j, j ≠ i → a ∉ Fs1 j := fun n => ⟨rl'.dz i a n, rl.own i a n, fun j ej w => by
        rw [k1 j ej] at w
        exact rl.dj j i a ej w n⟩
      rcases List.mem_cons.mp m with rfl | m
      · exact inI mp
      · rcases List.mem_append.mp m with m | m
        · exact inI (by rw [hF]; exact List.mem_cons_of_mem _ m)
        · refine ⟨(fre a m).2, rl.free0 (fre a m).1, fun j ej w => ?_⟩
          rw [k1 j ej] at w
          obtain ⟨o, q⟩ := rl.alloc w
          rw [(fre a m).1] at q; cases q
    obtain ⟨Fs3, rl3⟩ := rl2.sets (i := i) (d := .lst true (xs ++ [d])) (v := .ref p) (F := p :: (F' ++ F)) ⟨p, _, _, rfl, upd_same, r1, rfl⟩ hnd hall (fun q m w => hL (w ▸ hl q m))
    rw [List.set_set, List.set_set, set_id h1] at rl3
    exact ok.nx σ _ Z' _ Fs3 rl3 z⟩
end
end VL
set_option maxHeartbeats 2000000
namespace VL
open PySem L2 PyProof.Rows
section
variable {X : Cx} {cs : Cs} {L : List Nat} {a b c iter : Expr} {pos : Pos} {ta tb : TED} {st : Stmt} {sts body : List Stmt} {t u : TSD}
/-! ### loops -/
def for_ (i : Nat) (ti : TAD) (tb : TSD) : TSD := fun E env => ti env fun ds => ∃ Pv : Nat → Env → Prop, Pv 0 env ∧
  (∀ (k : Nat) d env', ds[k]? = some d → Pv k env' → tb { nx := Pv (k + 1), ct := Pv (k + 1), bk := E.nx, rt := E.rt } (env'.set i (some d))) ∧ ∀ env', Pv ds.length env' → E.nx env'
theorem vs_for (i : Nat) {x : Str} {p : Pos} {ti : TAD} (hp : PassesOwn (model X.prog X.w) X.A X.env X.xe) (hc : X.calm = true) (hi : VI X cs (.Name x p) iter ti) (hN : X.N.Nodup) (hb : VSs X cs L body t) (hix : X.N[i]? = some x := by rfl) (hx : Loc X.env.scope x := by first | exact .inl rfl | exact .inr rfl) (hL : i ∉ L := by decide)
    (hf : X.fn x = true ∨ X.env.scope.names.lookup x = some .local := by first | exact .inl rfl | exact .inr rfl | assumption) (hs : ∀ y, foldedSetIterable iter X.env y = pure y := by intro _; rfl) : VS X cs L (.For (.Name x p) iter body [] pos) (for_ i ti t) := by
  refine ⟨fun e hl => ⟨fun pins s σ H Dh I h => ?_⟩⟩
  obtain ⟨env, Z, Fs, E, rl, q, ok⟩ := h
  -- sources are known only behind the walk's making: one reading for all
  have all : PS X (.For (.Name x p) iter body [] pos) (tFor (tOfI X.K cs ti) (gName i) (fun D' σ' H' => ∃ gs, tSOf X.K cs { e with gs := gs ++ e.gs } t D' σ' H')) :=
    ps_for hp hc hi.run (pg_name hN hix hx hf) ⟨fun pins s σ H Dh I ⟨gs, h⟩ => (hb.run { e with gs := gs ++ e.gs } hl).run pins s σ H Dh I h⟩ hs
  refine all.run pins s σ H Dh I ⟨e, env, Z, Fs, rl, _, q, fun J H1 Z1 srcs ds x1 hsrc ⟨G, Y, hw, hG, hY⟩ ⟨Pv, p0, turn, fin⟩ => ?_⟩
  refine for_it (g := gName i) (tb := fun D' σ' H' => ∃ gs, tSOf X.K cs { e with gs := gs ++ e.gs } t D' σ' H') hw (fun k σ' H' => ∃ env' Z' Fs', Rel X.K cs { e with gs := srcs ++ e.gs } H' Z' σ' env' Fs' ∧ Pv k env') ⟨env, Z1, Fs, (rl.ext x1).withgs hsrc, p0⟩ (fun k σ' H' _ ⟨env', Z', Fs', r, _⟩ => hG H' Z' fun q m => r.gs q (List.mem_append_left _ m)) ?_ fun σ' H' ⟨env', Z', Fs', r, h⟩ => ok.nx σ' H' Z' env' Fs' r.lessgs (fin env' h)
  rintro k y σ' H' H2 hk ⟨env', Z', Fs', r, pv⟩ hy
  obtain ⟨x2, d, hd, rd⟩ := hY k H' Z' y H2 hk (fun q m => r.gs q (List.mem_append_left _ m)) hy
  obtain ⟨Fs2, r2⟩ := (r.ext x2).sets (i := i) rd List.nodup_nil (fun a m => by cases m) (fun q m w => hL (w ▸ hl q m))
  refine ⟨srcs, env'.set i (some d), Z', Fs2, _, r2, turn k d env' hd pv, fun σ3 H3 Z3 env3 Fs3 r3 h => ⟨env3, Z3, Fs3, r3, h⟩, fun σ3 H3 Z3 env3 Fs3 r3 h => ok.nx σ3 H3 Z3 env3 Fs3 r3.lessgs h,
    fun σ3 H3 Z3 env3 Fs3 r3 h => ⟨env3, Z3, Fs3, r3, h⟩, fun v σ3 H3 Z3 env3 Fs3 r F r3 rr nd hF h => ok.rt v σ3 H3 Z3 env3 Fs3 r F r3.lessgs rr nd hF h⟩
def while_ (tc : TTD) (tb : TSD) : TSD := fun E env => ∃ (P : Env → Prop) (μ : Env → Nat), P env ∧ ∀ env, P env → tc env fun b =>
  (b = true → tb { nx := fun env' => P env' ∧ μ env' < μ env, ct := fun env' => P env' ∧ μ env' < μ env, bk := E.nx, rt := E.rt } env) ∧ (b = false → E.nx env)
theorem vs_while {tc : TTD} (hp : PassesOwn (model X.prog X.w) X.A X.env X.xe) (hc : VB X cs c tc) (hb : VSs X cs L body t) : VS X cs L (.While c body [] pos) (while_ tc t) :=
  ⟨fun e hl => ps_weak (ps_while hp hc.run (hb.run e hl)) fun D σ H ⟨env, Z, Fs, E, rl, ⟨P, μ, p0, turn⟩, ok⟩ => by
    refine ⟨fun m σ' H' => ∃ env' Z' Fs', Rel X.K cs e H' Z' σ' env' Fs' ∧ P env' ∧ μ env' = m, ⟨_, env, Z, Fs, rl, p0, rfl⟩, ?_⟩
    rintro m σ' H' ⟨env', Z', Fs', r, pv, rfl⟩
    refine ⟨e, env', Z', Fs', r, _, turn env' pv, fun b H2 Z2 x2 z => ?_⟩
    cases b with
    | true =>
      rw [if_pos rfl]
      refine ⟨fun σ3 H3 => ∃ env3 Z3 Fs3, Rel X.K cs e H3 Z3 σ3 env3 Fs3 ∧ P env3 ∧ μ env3 < μ env', fun σ3 H3 ⟨env3, Z3, Fs3, r3, p3, l3⟩ => ⟨_, l3, env3, Z3, Fs3, r3, p3, rfl⟩, ?_⟩
      exact ⟨env', Z2, Fs', _, r.ext x2, z.1 rfl, fun σ3 H3 Z3 env3 Fs3 r3 h => ⟨env3, Z3, Fs3, r3, h⟩, ok.nx, fun σ3 H3 Z3 env3 Fs3 r3 h => ⟨env3, Z3, Fs3, r3, h⟩, ok.rt⟩
    | false =>
      rw [if_neg Bool.false_ne_true]
      exact ok.nx σ' H2 Z2 env' Fs' (r.ext x2) (z.2 rfl)⟩

/-! ### list comprehensions -/
structure VTs (X : Cx) (cs : Cs) (ifs : List Expr) (t : TTD) : Prop where
  run : PTs X ifs (tOfB X.K cs t)
def yes_ : TTD := fun _ Q => Q true
theorem pts_weak {X : Cx} {ifs : List Expr} {t t' : TT} (h : PTs X ifs t) (w : ∀ σ H Q, t' σ H Q → t σ H Q) : PTs X ifs t' := ⟨fun pins s σ H Q I q => h.run pins s σ H Q I (w σ H Q q)⟩
theorem vts_nil : VTs X cs [] yes_ := ⟨pts_weak pts_nil fun σ H Q ⟨e, env, Z, Fs, rl, QD, q, k⟩ => k true H Z (Ext.refl H Z) q⟩
theorem vts_one {tt : TTD} (h : VB X cs c tt) : VTs X cs [c] tt := ⟨pts_one h.run⟩
def lc_ (i : Nat) (ti : TAD) (tt : TTD) (te : TED) : TED := fun env Q => ti env fun ds => ∃ (p : D → Bool) (f : D → D), (∀ d ∈ ds, tt (env.set i (some d)) fun b => b = p d) ∧ (∀ d ∈ ds, p d = true → te (env.set i (some d)) fun y => y = f d) ∧
  ds.length ≤ sizeLine ∧ Q (.lst true ((ds.filter p).map f))
theorem wipe1 (σ : L2.St) (i : Nat) : wipe σ [i] = σ.set i none := rfl
/-- the reading of a comprehension -/
theorem lc_te {i : Nat} {ti : TAD} {tt : TTD} {te : TED} {K : PySem.W.Frag} : ∀ σ H Q, tOfT K cs (lc_ i ti tt te) σ H Q → tLc (tOfI K cs ti) (gName i) (tOfB K cs tt) (tOfT K cs te) [i] σ H Q := by
  rintro σ H Q ⟨e, env, Z, Fs, rl, QD, q, k⟩
  refine ⟨{ e with io := [] }, env, Z, Fs, ⟨rl.slot, rl.off, rl.nd, rl.dj, rl.dz, rl.za, rl.own, rl.fr, rl.th, rl.tb, rl.z0, rl.z1, fun p m => (by cases m), rl.gs, rl.len⟩, _, q, fun J H1 Z1 srcs ds x1 hsrc ⟨G, Y, hw, hG, hY⟩ ⟨p, f, hp, hf, hz, qd⟩ Dp hD => ?_⟩
  have rl0 : Rel K cs { e with io := [], gs := srcs ++ e.gs } H1 Z1 σ env Fs :=
    Rel.withgs (e := { e with io := [] }) ⟨(rl.ext x1).slot, rl.off, rl.nd, rl.dj, (rl.ext x1).dz, (rl.ext x1).za, rl.own, (rl.ext x1).fr, (rl.ext x1).th, (rl.ext x1).tb, (rl.ext x1).z0, (rl.ext x1).z1, fun p m => (by cases m), (rl.ext x1).gs, rl.len⟩ hsrc
  have nz1 : ¬ Z1 Dp := rl0.nz hD
  refine lc_it hw (fun k H' => ∃ Z' acc Fa, Rel K cs { e with io := [], gs := srcs ++ e.gs } H' Z' σ env Fs ∧ Ext cs H1 H' Z1 Z' ∧ H' Dp = some (.lst acc) ∧ ¬ Z' Dp ∧ acc.length ≤ k ∧ RL K cs H' Z' (((ds.take k).filter p).map f) acc Fa ∧ Fa.Nodup ∧ (∀ a ∈ Fa, a ≠ Dp ∧ H1 a = none ∧ ¬ Z' a))
    ⟨Z1, [], [], rl0.ext (Ext.of (same_upd hD)), Ext.of (same_upd hD), upd_same, nz1, Nat.le_refl _, by simp; exact ⟨rfl, rfl⟩, List.nodup_nil, fun a m => by cases m⟩
    (fun k H' _ ⟨Z', acc, Fa, r, _⟩ => hG H' Z' fun q m => r.gs q (List.mem_append_left _ m)) ?_ ?_
  · rintro k y H' H2 hk ⟨Z', acc, Fa, r, x', hDp, nzD, hl, ra, nda, hFa⟩ hy
    obtain ⟨x2, d, hd, rd⟩ := hY k H' Z' y H2 hk (fun q m => r.gs q (List.mem_append_left _ m)) hy
    have md : d ∈ ds := List.mem_of_getElem? hd
    obtain ⟨Fw, rw1, _, _⟩ := (r.ext x2).wipes i (none : Option V) (fun q m => by cases m)
    obtain ⟨Fs2, r2⟩ := rw1.sets (i := i) rd List.nodup_nil (fun a m => by cases m) (fun q m => by cases m)
    rw [show (env.set i none).set i (some d) = env.set i (some d) from List.set_set ..] at r2
    have etake : ds.take (k + 1) = ds.take k ++ [d] := by rw [List.take_add_one, hd]; rfl
    refine ⟨by show ((σ.set i none).set i (some y)).set i none = σ.set i none; rw [List.set_set, List.set_set], _, env.set i (some d), Z', Fs2, r2, _, hp d md, fun b H3 Z3 x3 eb => ?_⟩
    subst eb
    have x23 := x2.trans x3
    have t3 := x23.same.at hDp
    have nzD3 : ¬ Z3 Dp := fun z => by
      rcases x23.new _ z with z | ⟨z, _⟩
      · exact nzD z
      · rw [hDp] at z; cases z
    have nzFa3 : ∀ a ∈ Fa, ¬ Z3 a := fun a m z => by
      rcases x23.new _ z with z | ⟨z, _⟩
      · exact (hFa a m).2.2 z
      · obtain ⟨o, w⟩ := RL.alloc _ _ _ ra a m
        rw [z] at w; cases w
    cases hpd : p d with
    | false =>
      rw [if_neg Bool.false_ne_true]
      refine ⟨Z3, acc, Fa, r.ext x23, x'.trans x23, t3, nzD3, by omega, ?_, nda, fun a m => ⟨(hFa a m).1, (hFa a m).2.1, nzFa3 a m⟩⟩
      rw [etake, List.filter_append, List.filter_cons_of_neg (by rw [hpd]; exact Bool.false_ne_true), List.filter_nil, List.append_nil]
      exact ra.ext x23
    | true =>
      rw [if_pos rfl]
      refine ⟨_, env.set i (some d), Z3, Fs2, r2.ext x3, _, hf d md hpd, fun z H4 Z4 d4 F4 x4 r4 nd4 fre4 ed => ?_⟩
      subst ed
      have x234 := x23.trans x4
      have t4 := x234.same.at hDp
      have kd : k < ds.length := hk
      have nzD4 : ¬ Z4 Dp := fun z => by
        rcases x4.new _ z with z | ⟨z, _⟩
        · exact nzD3 z
        · rw [t3] at z; cases z
      have nF4 : Dp ∉ F4 := fun m => by
        have := (fre4 Dp m).1
        rw [t3] at this; cases this
      refine ⟨acc, t4, by omega, ?_⟩
      refine ⟨Z4, acc ++ [z], Fa ++ F4, (r.ext x234).writes (o' := .lst (acc ++ [z])) t4 trivial (fun j m => ?_) nzD4 (rl0.free0 hD), ?_, upd_same, nzD4, by simp; omega, ?_, ?_, ?_⟩
      · obtain ⟨o, w⟩ := rl0.alloc m
        rw [hD] at w; cases w
      · refine ⟨⟨fun a o w n => ?_, fun a o w => ?_, fun tt => tabs_keep ((x'.trans x234).same.tabs tt) fun b u q n => ?_⟩, (x'.trans x234).up, fun a w => ?_⟩
        · rw [upd_ne (ne_of_none w hD)]; exact (x'.trans x234).same.keep a o w n
        · rw [upd_ne (ne_of_none w hD)]; exact (x'.trans x234).same.there a o w
        · rw [upd_ne (fun e => by subst e; rw [t4] at q; cases q; exact n trivial)]; exact q
        · rcases (x'.trans x234).new a w with w | ⟨w, o, ho⟩
          · exact .inl w
          · by_cases ea : a = Dp
            · exact absurd (ea ▸ w) (by intro _; exact nzD4 (by rw [← ea]; assumption))
            · exact .inr ⟨w, o, by rw [upd_ne ea]; exact ho⟩
      · rw [etake, List.filter_append, List.filter_cons_of_pos hpd, List.filter_nil, List.map_append]
        exact RL.writes (RL.app (ra.ext x234) (RL.one r4)) t4 trivial (fun m => (List.mem_append.mp m).elim (fun m => (hFa _ m).1 rfl) nF4) nzD4
      · exact List.nodup_append.mpr ⟨nda, nd4, fun a m b n e => by
          subst e
          obtain ⟨o, w⟩ := RL.alloc _ _ _ (ra.ext x23) a m
          rw [(fre4 a n).1] at w; cases w⟩
      · intro a m
        rcases List.mem_append.mp m with m | m
        · refine ⟨(hFa a m).1, (hFa a m).2.1, fun z => ?_⟩
          rcases x4.new _ z with z | ⟨z, _⟩
          · exact nzFa3 a m z
          · obtain ⟨o, w⟩ := RL.alloc _ _ _ (ra.ext x23) a m
            rw [z] at w; cases w
        · exact ⟨fun e => nF4 (e ▸ m), (x'.trans x23).same.free (fre4 a m).1, (fre4 a m).2⟩
  · rintro H' ⟨Z', acc, Fa, r, x', hDp, nzD, hl, ra, nda, hFa⟩
    rw [List.take_length] at ra
    refine k _ H' Z' (.lst true ((ds.filter p).map f)) (Dp :: Fa) (x1.trans x') ⟨Dp, acc, Fa, rfl, hDp, ra, rfl⟩ (List.nodup_cons.mpr ⟨fun m => (hFa _ m).1 rfl, nda⟩) (fun a m => ?_) qd
    rcases List.mem_cons.mp m with rfl | m
    · exact ⟨x1.same.free hD, nzD⟩
    · exact ⟨x1.same.free (hFa a m).2.1, (hFa a m).2.2⟩
theorem vt_lc (i : Nat) {x : Str} {p : Pos} {elt : Expr} {ifs : List Expr} {scope : Scope} {ti : TAD} {tt : TTD} {te : TED} (hc : X.calm = true) (hN : X.N.Nodup) (hi : VI X cs (.Name x p) iter ti) (ok : BlkOk X.N X.env.scope scope [(x, i)])
    (hg : ∀ (s : Shared) (H : Hp) (C : Addr) (cl : List (Str × Addr)) (fp : List Addr), PG (X.blk s H scope (compEnvC scope cl C X.env) fp) (.Name x p) (gName i)) (ht : ∀ (s : Shared) (H : Hp) (C : Addr) (cl : List (Str × Addr)) (fp : List Addr), VTs (X.blk s H scope (compEnvC scope cl C X.env) fp) cs ifs tt)
    (he : ∀ (s : Shared) (H : Hp) (C : Addr) (cl : List (Str × Addr)) (fp : List Addr), VT (X.blk s H scope (compEnvC scope cl C X.env) fp) cs elt te) (hs : ∀ y, foldedSetIterable iter X.env y = pure y := by intro _; rfl) :
    VT X cs (.ListComp elt [⟨.Name x p, iter, ifs, 0⟩] scope pos) (lc_ i ti tt te) :=
  ⟨pe_weak (pe_lc (own := [(x, i)]) hc hN hi.run ok hg (fun s H C cl fp => (ht s H C cl fp).run) (fun s H C cl fp => (he s H C cl fp).run) hs) lc_te⟩
/-- y = [..] on one line -/
theorem vs_setLc (j i : Nat) {x y : Str} {p py spos : Pos} {elt : Expr} {ifs : List Expr} {scope : Scope} {ti : TAD} {tt : TTD} {te : TED} (hc : X.calm = true) (hN : X.N.Nodup) (hy : X.N[j]? = some y) (hyl : X.env.scope.names.lookup y = some .local)
    (hsw : swapsWith (.ListComp elt [⟨.Name x p, iter, ifs, 0⟩] scope pos) (some (.Name y py)) spos.line X.env = pure true) (hi : VI X cs (.Name x p) iter ti) (ok : BlkOk X.N X.env.scope scope [(x, i)])
    (hg : ∀ (s : Shared) (H : Hp) (C : Addr) (cl : List (Str × Addr)) (fp : List Addr), PG (X.blk s H scope (compEnvC scope cl C X.env) fp) (.Name x p) (gName i)) (ht : ∀ (s : Shared) (H : Hp) (C : Addr) (cl : List (Str × Addr)) (fp : List Addr), VTs (X.blk s H scope (compEnvC scope cl C X.env) fp) cs ifs tt)
    (he : ∀ (s : Shared) (H : Hp) (C : Addr) (cl : List (Str × Addr)) (fp : List Addr), VT (X.blk s H scope (compEnvC scope cl C X.env) fp) cs elt te) (hL : j ∉ L := by decide) (hs : ∀ y, foldedSetIterable iter X.env y = pure y := by intro _; rfl) :
    VS X cs L (.Assign [.Name y py] (.ListComp elt [⟨.Name x p, iter, ifs, 0⟩] scope pos) spos) (set_ j (lc_ i ti tt te)) :=
  ⟨fun e hl => ps_weak (ps_setLc (own := [(x, i)]) hc hN hy hyl hsw hi.run ok hg (fun s H C cl fp => (ht s H C cl fp).run) (fun s H C cl fp => (he s H C cl fp).run) hs) fun D σ H ⟨env, Z, Fs, E, rl, q, ok⟩ =>
    lc_te (K := X.K) σ H _ ⟨e, env, Z, Fs, rl, _, q, fun v H' Z' d F x r nd fre z => by
      obtain ⟨Fs', rl'⟩ := rl.put x r nd fre j fun p m w => hL (w ▸ hl p m)
      exact ok.nx _ H' Z' _ Fs' rl' z⟩⟩

/-! ### defs and calls -/
abbrev SpD := List D → (D → Prop) → Prop
/-- the promise of a def that writes nothing that stood -/
def spOf (K : PySem.W.Frag) (cs : Cs) (s : SpD) : Sp := fun vs H Q _ => LamX.Tabs cs.tb H ∧ ∃ Z ds, (∀ a, Z a → ∃ o, H a = some o) ∧ RL K cs H Z ds vs [] ∧ ∃ QD, s ds QD ∧
  ∀ v H' Z' r F, Ext cs H H' Z Z' → R K cs H' Z' r v F → F.Nodup → (∀ a ∈ F, H a = none ∧ ¬ Z' a) → QD r → Q v H'
def callD (s : SpD) (u : TAD) : TED := fun env Q => u env fun ds => s (frzL ds) fun r => (alo r = true ∨ noOwnL ds = true) ∧ Q r
theorem vt_call {s : SpD} {k : Nat} {f : Addr} {fd : FuncData} {ps : List Str} {x : Str} {p : Pos} {es : List Expr} {u : TAD} (F : FnOk X.prog X.w X.K X.mg X.base CX0 k f fd ps (spOf X.K cs s)) (hr : Room k X.A) (hg : Gl X x) (hm : X.mg x = some (.ref f)) (hk : PySem.W.keepIn X.K (.ref f) = true) (hb : Binds X.K fd ps [])
    (ha : VAr X cs (a :: es) u) (hdb : (x == ("__debug__" : Str)) = false := by decide) (he : starEach (a :: es) X.env = (false, eval a X.env) :: starEach es X.env := by rfl) (hpl : (backTo pos (starEach es X.env)).any (·.1) = false := by rfl) :
    VT X cs (.Call (.Name x p) (a :: es) [] pos) (callD s u) :=
  ⟨pe_weak (pe_call F hr hg hm hk hb .nil pass0 ha.run hdb he hpl) fun σ H Q ⟨e, env, Z, Fs, rl, QD, q, k⟩ => ⟨e, env, Z, Fs, rl, _, q, fun vs H1 Z1 ds F1 x1 r1 q1 => by
    show spOf X.K cs s (vs ++ []) H1 Q E0
    rw [List.append_nil]
    have al := RL.alloc _ _ _ r1
    refine ⟨(rl.ext x1).tb, fun a => Z1 a ∨ a ∈ F1, frzL ds, fun a z => z.elim ((rl.ext x1).za a) (al a), RL.fr (fun _ h => .inl h) ds vs F1 (fun _ m => .inr m) r1, _, q1, fun v H2 Z2 r F x2 rr nd fre ⟨c, q2⟩ => ?_⟩
    rcases c with c | c
    · refine k v H2 Z1 r F (x1.trans (Ext.of x2.same)) (R.anyZ r v F c rr) nd (fun a m => ⟨x1.same.free (fre a m).1, fun z => (fre a m).2 (x2.up a (.inl z))⟩) q2
    · have e0 := RL.noF ds vs F1 c r1
      subst e0
      exact k v H2 Z2 r F (x1.trans ⟨x2.same, fun a z => x2.up a (.inl z), fun a z => (x2.new a z).imp_left fun w => w.elim id fun m => by cases m⟩) rr nd (fun a m => ⟨x1.same.free (fre a m).1, (fre a m).2⟩) q2⟩⟩
/-- a call whose arguments are handed away: what comes back may hold them -/
def callTD (s : SpD) (u : TAD) : TED := fun env Q => u env fun ds => s (frzL ds) Q
theorem vt_callT {s : SpD} {k : Nat} {f : Addr} {fd : FuncData} {ps : List Str} {x : Str} {p : Pos} {es : List Expr} {u : TAD} (F : FnOk X.prog X.w X.K X.mg X.base CX0 k f fd ps (spOf X.K cs s)) (hr : Room k X.A) (hg : Gl X x) (hm : X.mg x = some (.ref f)) (hk : PySem.W.keepIn X.K (.ref f) = true) (hb : Binds X.K fd ps [])
    (ha : VM X cs [] (a :: es) u) (hdb : (x == ("__debug__" : Str)) = false := by decide) (he : starEach (a :: es) X.env = (false, eval a X.env) :: starEach es X.env := by rfl) (hpl : (backTo pos (starEach es X.env)).any (·.1) = false := by rfl) :
    VT X cs (.Call (.Name x p) (a :: es) [] pos) (callTD s u) :=
  ⟨pe_weak (pe_call F hr hg hm hk hb .nil pass0 ha.run hdb he hpl) fun σ H Q ⟨e, env, Z, Fs, rl, QD, q, k⟩ => ⟨e, env, Z, Fs, rl, _, q, fun vs H1 Z1 ds F1 x1 r1 _ fre1 q1 => by
    show spOf X.K cs s (vs ++ []) H1 Q E0
    rw [List.append_nil]
    have al := RL.alloc _ _ _ r1
    have fr1 : ∀ a ∈ F1, H a = none ∧ ¬ Z1 a := fun a m => ⟨(fre1 a m).2.elim id fun ⟨i, hi, _⟩ => (by cases hi), (fre1 a m).1⟩
    refine ⟨(rl.ext x1).tb, fun a => Z1 a ∨ a ∈ F1, frzL ds, fun a z => z.elim ((rl.ext x1).za a) (al a), RL.fr (fun _ h => .inl h) ds vs F1 (fun _ m => .inr m) r1, _, q1, fun v H2 Z2 r F x2 rr nd fre q2 => ?_⟩
    exact k v H2 Z2 r F ((Ext.frz rl x1 al fr1).trans x2) rr nd (fun a m => ⟨x1.same.free (fre a m).1, (fre a m).2⟩) q2⟩⟩
/-- the environment at a def's entry -/
def env0 (n : Nat) (ds : List D) : Env := ds.map some ++ List.replicate (n - ds.length) none
theorem rel_start {K : PySem.W.Frag} {N : List Str} {H : Hp} {Z : Addr → Prop} {ds : List D} {vs : List V} (tb : LamX.Tabs cs.tb H) (za : ∀ a, Z a → ∃ o, H a = some o) (r : RL K cs H Z ds vs []) :
    Rel K cs ⟨H, Z, fun _ => False, [], []⟩ H Z (L2.start N vs) (env0 N.length ds) fun _ => [] := by
  have l := r.len
  refine ⟨fun i d h => ?_, fun _ _ => rfl, fun _ => List.nodup_nil, fun _ _ _ _ m => (by cases m), fun _ _ m => (by cases m), za, fun _ _ m => (by cases m), fun a o h _ _ => h, fun a o h => .inr ⟨o, h⟩, tb, fun a z => z, fun a z => Or.inl z, fun p m => (by cases m), fun p m => (by cases m), ?_⟩
  · unfold env0 at h
    by_cases hi : i < ds.length
    · rw [List.getElem?_append_left (by simpa using hi), List.getElem?_map] at h
      cases e : ds[i]? with
      | none => rw [e] at h; cases h
      | some x =>
        rw [e] at h
        cases h
        obtain ⟨y, G, h1, h2, h3⟩ := RL.get r e
        have : G = [] := List.eq_nil_iff_forall_not_mem.mpr fun a m => absurd (h3 a m) (by simp)
        subst this
        refine ⟨y, ?_, h2⟩
        unfold L2.start
        rw [List.getElem?_append_left (by simp; omega), List.getElem?_map, h1]
        rfl
    · rw [List.getElem?_append_right (by simpa using hi)] at h
      rw [List.getElem?_replicate] at h
      split at h <;> cases h
  · unfold L2.start env0
    simp [l]
theorem fn_pure {P : Program} {w : World} {K : PySem.W.Frag} {mg : Str → Option Value} {base : Heap} {x qual : Str} {st : Stmt} {f : Addr} {fd : FuncData} {N ps : List Str} {k : Nat} {s : SpD} {t : TSD} (F : Fun K x qual st f fd) (S : FnScope N ps (defScope st))
    (len : ∀ ds Q, s ds Q → ds.length = ps.length)
    (body : ∀ (cdv : Value) (A : Around) (outer : List PySem.Env) (s : Shared) (H : Hp) (E : XK), Room k (A.deeper (envOfC qual (defScope st) s.heap.objs.size f cdv)) → VSs (cxOf CX0 P w K mg base N qual (defScope st) f cdv A outer s H E).nox cs [] (defBody st) t)
    (law : ∀ ds Q, s ds Q → t { nx := fun _ => Q .non, rt := fun d _ => Q d } (env0 N.length ds)) : FnOk P w K mg base CX0 (k + 1) f fd ps (spOf K cs s) := by
  refine F.ok S (fun vs H Q E ⟨tb, Z, ds, za, r, QD, h, _⟩ => ?_) fun cdv A outer sh H vs Q E hr ⟨tb, Z, ds, za, r, QD, h, fin⟩ => ?_
  · rw [r.len]; exact len ds QD h
  · refine ⟨_, (body cdv A outer sh H E hr).run ⟨H, Z, fun _ => False, [], []⟩ (fun p m => by cases m), env0 N.length ds, Z, fun _ => [], _, rel_start tb za r, law ds QD h, fun σ H' Z' env Fs rl q => ?_, fun _ _ _ _ _ _ q => q, fun _ _ _ _ _ _ q => q, fun v σ H' Z' env Fs d Fd rl rd nd hF q => ?_⟩
    · exact fin .non H' Z' .non [] ⟨⟨fun a o h n => rl.fr a o h n id, fun a o h => (rl.th a o h).elim False.elim id, fun _ => rl.tb⟩, rl.z0, fun a z => (rl.z1 a z).imp_right fun w => ⟨w.elim id False.elim, rl.za a z⟩⟩ ⟨rfl, rfl⟩ List.nodup_nil (fun a m => by cases m) q
    · exact fin v H' Z' d Fd ⟨⟨fun a o h n => rl.fr a o h n id, fun a o h => (rl.th a o h).elim False.elim id, fun _ => rl.tb⟩, rl.z0, fun a z => (rl.z1 a z).imp_right fun w => ⟨w.elim id False.elim, rl.za a z⟩⟩ rd nd (fun a m => ⟨(hF a m).2.1.elim False.elim id, (hF a m).1⟩) q
/-- the law's own promise -/
def spLaw (ns : List Int → Prop) : SpD := fun ds Q => ∃ xs, ds = [.lst false (xs.map .int)] ∧ ns xs ∧ Q (.bl true)
theorem sp_script {K : PySem.W.Frag} {H : Hp} {p : Addr} {xs : List Int} {n : Nat} {E : XK} (tb : LamX.Tabs cs.tb H) (hl : xs.length ≤ n) (h : SqL K H p (xs.map V.int)) : spOf K cs (spLaw fun ys => ys.length ≤ n) [.ref p] H (fun v _ => v = .bl true) E := by
  refine ⟨tb, fun b => b = p ∧ ∃ o, H b = some o, [.lst false (xs.map .int)], fun b z => z.2, ?_, fun r => r = .bl true, ⟨xs, rfl, hl, rfl⟩, fun v H' Z' r F _ rr _ _ q => by subst q; exact rr.1⟩
  refine RL.one ⟨p, _, rfl, ?_, RL.of_ints xs, rfl⟩
  rcases h with h | h
  · exact .inl ⟨h, rfl, by rcases h with h | ⟨o, h⟩ <;> exact ⟨_, h⟩⟩
  · exact .inr h
end
end VL
set_option maxHeartbeats 2000000
namespace VL
open PySem L2 PyProof.Rows
section
variable {X : Cx} {cs : Cs} {L : List Nat} {a b c iter : Expr} {pos : Pos} {ta tb : TED} {st : Stmt} {sts body : List Stmt} {t u : TSD}
/-! ### isinstance against a built-in class -/
inductive Ty where | int | bool | str | list | tuple | dict
def tyName : Ty → String
  | .int => "int"
  | .bool => "bool"
  | .str => "str"
  | .list => "list"
  | .tuple => "tuple"
  | .dict => "dict"
def isT : Ty → D → Bool
  | .int, .int _ => true
  | .int, .bl _ => true
  | .bool, .bl _ => true
  | .str, .str _ => true
  | .list, .lst _ _ => true
  | .tuple, .tup _ => true
  | .dict, .dic _ _ _ => true
  | .dict, .dit _ _ _ => true
  | _, _ => false
theorem kit_int : kitB "int" "int" = some true ∧ kitB "int" "bool" = some false ∧ kitB "int" "str" = some false ∧ kitB "int" "list" = some false ∧ kitB "int" "tuple" = some false ∧ kitB "int" "dict" = some false := by decide +kernel
theorem kit_bool : kitB "bool" "int" = some true ∧ kitB "bool" "bool" = some true ∧ kitB "bool" "str" = some false ∧ kitB "bool" "list" = some false ∧ kitB "bool" "tuple" = some false ∧ kitB "bool" "dict" = some false := by decide +kernel
theorem kit_str : kitB "str" "int" = some false ∧ kitB "str" "bool" = some false ∧ kitB "str" "str" = some true ∧ kitB "str" "list" = some false ∧ kitB "str" "tuple" = some false ∧ kitB "str" "dict" = some false := by decide +kernel
theorem kit_list : kitB "list" "int" = some false ∧ kitB "list" "bool" = some false ∧ kitB "list" "str" = some false ∧ kitB "list" "list" = some true ∧ kitB "list" "tuple" = some false ∧ kitB "list" "dict" = some false := by decide +kernel
theorem kit_tuple : kitB "tuple" "int" = some false ∧ kitB "tuple" "bool" = some false ∧ kitB "tuple" "str" = some false ∧ kitB "tuple" "list" = some false ∧ kitB "tuple" "tuple" = some true ∧ kitB "tuple" "dict" = some false := by decide +kernel
theorem kit_dict : kitB "dict" "int" = some false ∧ kitB "dict" "bool" = some false ∧ kitB "dict" "str" = some false ∧ kitB "dict" "list" = some false ∧ kitB "dict" "tuple" = some false ∧ kitB "dict" "dict" = some true := by decide +kernel
theorem kit_none : kitB "NoneType" "int" = some false ∧ kitB "NoneType" "bool" = some false ∧ kitB "NoneType" "str" = some false ∧ kitB "NoneType" "list" = some false ∧ kitB "NoneType" "tuple" = some false ∧ kitB "NoneType" "dict" = some false := by decide +kernel
def plainD : D → Bool
  | .obj _ _ _ _ => false
  | .opq => false
  | _ => true
theorem pick6 {p1 p2 p3 p4 p5 p6 : Prop} (h : p1 ∧ p2 ∧ p3 ∧ p4 ∧ p5 ∧ p6) (t : Ty) : match t with | .int => p1 | .bool => p2 | .str => p3 | .list => p4 | .tuple => p5 | .dict => p6 := by
  obtain ⟨h1, h2, h3, h4, h5, h6⟩ := h
  cases t <;> assumption
theorem isT_ok {K : PySem.W.Frag} {H : Hp} {Z : Addr → Prop} {d : D} {v : V} {F : List Addr} (t : Ty) (h : plainD d = true) (r : R K cs H Z d v F) : ∃ u, TyX K H v u ∧ PySem.W.kitOne K u (.type (tyName t)) = some (isT t d) := by
  cases d with
  | non => cases r.1; exact ⟨_, .base .non, kit_ty (by have := pick6 kit_none t; cases t <;> exact this)⟩
  | bl b => cases r.1; exact ⟨_, .base (.bl b), kit_ty (by have := pick6 kit_bool t; cases t <;> exact this)⟩
  | int i => cases r.1; exact ⟨_, .base (.int i), kit_ty (by have := pick6 kit_int t; cases t <;> exact this)⟩
  | str x => cases r.1; exact ⟨_, .base (.str x), kit_ty (by have := pick6 kit_str t; cases t <;> exact this)⟩
  | tup xs =>
    obtain ⟨a, vs, rfl, q, _⟩ := r
    have k : kitB "tuple" (tyName t) = some (isT t (.tup xs)) := by have := pick6 kit_tuple t; cases t <;> exact this
    rcases q with (q | ⟨o, q⟩) | ⟨o, its, n, q, c, _⟩
    · exact ⟨_, .base (.tup q), kit_ty k⟩
    · exact ⟨_, .fTuple q, kit_ty k⟩
    · exact ⟨_, .kTuple q c, kit_ty k⟩
  | lst m xs =>
    obtain ⟨a, vs, F', rfl, q, _, _⟩ := R.lstv r
    have k : kitB "list" (tyName t) = some (isT t (.lst m xs)) := by have := pick6 kit_list t; cases t <;> exact this
    rcases q with (q | ⟨o, q⟩) | ⟨o, its, n, q, c, _⟩
    · exact ⟨_, .base (.lst q), kit_ty k⟩
    · exact ⟨_, .base (.frz q), kit_ty k⟩
    · exact ⟨_, .kList q c, kit_ty k⟩
  | dic m ks xs =>
    have k : kitB "dict" (tyName t) = some (isT t (.dic m ks xs)) := by have := pick6 kit_dict t; cases t <;> exact this
    cases m with
    | true => obtain ⟨a, vs, F', rfl, q, _⟩ := r; exact ⟨_, .base (.dK q), kit_ty k⟩
    | false => obtain ⟨a, vs, rfl, q, _⟩ := r; exact ⟨_, .base (.dK q), kit_ty k⟩
  | dit m ks xs =>
    have k : kitB "dict" (tyName t) = some (isT t (.dit m ks xs)) := by have := pick6 kit_dict t; cases t <;> exact this
    cases m with
    | true => obtain ⟨a, vs, F', rfl, q, _⟩ := r; exact ⟨_, .base (.dT q), kit_ty k⟩
    | false => obtain ⟨a, vs, rfl, q, _⟩ := r; exact ⟨_, .base (.dT q), kit_ty k⟩
  | obj _ _ _ _ => cases h
  | opq => cases h
def isi_ (t : Ty) (ta : TED) : TED := fun env Q => ta env fun d => plainD d = true ∧ Q (.bl (isT t d))
theorem vt_isi (t : Ty) {n : Str} {p q : Pos} (hg : Gl X "isinstance") (hm : X.mg "isinstance" = none) (hgT : Gl X n) (hmT : X.mg n = none) (hv : bootBuiltins n = some (.type (tyName t))) (ha : VP X cs a ta) (hnn : n ≠ "__name__" := by decide) (hdb : (n == ("__debug__" : Str)) = false := by decide)
    (h1 : starEach [.Name n q] X.env = (false, eval (.Name n q) X.env) :: starEach [] X.env := by rfl) (h2 : starEach (a :: [.Name n q]) X.env = (false, eval a X.env) :: starEach [.Name n q] X.env := by rfl) (h3 : (backTo pos (starEach [.Name n q] X.env)).any (·.1) = false := by rfl) :
    VT X cs (.Call (.Name "isinstance" p) [a, .Name n q] [] pos) (isi_ t ta) :=
  ⟨pe_weak (pe_callB call_isi hg hm boot_isinstance (pa_cons ha.run (pa_cons (pe_bltn (v := .ty (tyName t)) hgT hmT hv rfl hnn hdb) pa_nil h1) h2) (by decide) (by decide) h2 h3) fun σ H Q ⟨e, env, Z, Fs, rl, QD, q, k⟩ => ⟨e, env, Z, Fs, rl, _, q, fun v H' Z' d F x r z => by
    obtain ⟨u, ty, kk⟩ := isT_ok t z.1 r
    exact ⟨v, .ty (tyName t), u, .type (tyName t), isT t d, rfl, .ty _, ty, kk, k _ H' Z' (.bl _) [] x ⟨rfl, rfl⟩ List.nodup_nil (fun a m => by cases m) z.2⟩⟩⟩
theorem boot_tys : bootBuiltins "int" = some (.type "int") ∧ bootBuiltins "bool" = some (.type "bool") ∧ bootBuiltins "str" = some (.type "str") ∧ bootBuiltins "list" = some (.type "list") ∧ bootBuiltins "tuple" = some (.type "tuple") ∧ bootBuiltins "dict" = some (.type "dict") := by decide +kernel
theorem boot_more : bootBuiltins "len" = some (.builtin "len") ∧ bootBuiltins "min" = some (.builtin "min") ∧ bootBuiltins "max" = some (.builtin "max") ∧ bootBuiltins "abs" = some (.builtin "abs") ∧ bootBuiltins "sorted" = some (.builtin "sorted") ∧ bootBuiltins "sum" = some (.builtin "sum") := by decide +kernel

/-! ### a def that is known -/
structure Kn (P : Program) (w : World) (K : PySem.W.Frag) (mg : Str → Option Value) (base : Heap) (cs : Cs) (x : Str) (k : Nat) (ps : List Str) (s : SpD) : Prop where
  ex : ∃ (f : Addr) (fd : FuncData), FnOk P w K mg base CX0 k f fd ps (spOf K cs s) ∧ mg x = some (.ref f) ∧ PySem.W.keepIn K (.ref f) = true ∧ Binds K fd ps []
theorem vt_fn {s : SpD} {k : Nat} {ps : List Str} {x : Str} {p : Pos} {es : List Expr} {u : TAD} (h : Kn X.prog X.w X.K X.mg X.base cs x k ps s) (hr : Room k X.A) (hg : Gl X x) (ha : VAr X cs (a :: es) u) (hdb : (x == ("__debug__" : Str)) = false := by decide)
    (he : starEach (a :: es) X.env = (false, eval a X.env) :: starEach es X.env := by rfl) (hpl : (backTo pos (starEach es X.env)).any (·.1) = false := by rfl) : VT X cs (.Call (.Name x p) (a :: es) [] pos) (callD s u) := by
  obtain ⟨f, fd, F, hm, hk, hb⟩ := h.ex
  exact vt_call F hr hg hm hk hb ha hdb he hpl
theorem vt_fnT {s : SpD} {k : Nat} {ps : List Str} {x : Str} {p : Pos} {es : List Expr} {u : TAD} (h : Kn X.prog X.w X.K X.mg X.base cs x k ps s) (hr : Room k X.A) (hg : Gl X x) (ha : VM X cs [] (a :: es) u) (hdb : (x == ("__debug__" : Str)) = false := by decide)
    (he : starEach (a :: es) X.env = (false, eval a X.env) :: starEach es X.env := by rfl) (hpl : (backTo pos (starEach es X.env)).any (·.1) = false := by rfl) : VT X cs (.Call (.Name x p) (a :: es) [] pos) (callTD s u) := by
  obtain ⟨f, fd, F, hm, hk, hb⟩ := h.ex
  exact vt_callT F hr hg hm hk hb ha hdb he hpl
/-- a name of the text that is no name of the module: a built-in -/
abbrev Free (mg : Str → Option Value) (names : List Str) : Prop := ∀ n ∈ names, mg n = none
end

/-! ### simple facts for the proofs over data -/
theorem sq_i {t u : TSD} {E : EndsD} {env : Env} (h : t { E with nx := fun e => u E e } env) : sq_ t u E env := ⟨_, h, fun _ q => q⟩
theorem sq_cut {t u : TSD} {E : EndsD} {env : Env} (Rr : Env → Prop) (h : t { E with nx := Rr } env) (h2 : ∀ e, Rr e → u E e) : sq_ t u E env := ⟨Rr, h, h2⟩
theorem size_line : sizeLine = 16777216 := sizeLine_eq
abbrev lI (m : Bool) (ns : List Int) : D := .lst m (ns.map .int)
theorem noOwn_lI (ns : List Int) : noOwnL (ns.map .int) = true := by rw [noOwnL_all]; simp [noOwn]
theorem aloL_lI (ns : List Int) : aloL (ns.map .int) = true := by rw [aloL_all]; simp [alo]
theorem frzL_lI (ns : List Int) : frzL (ns.map .int) = ns.map .int := frzL_id _ (noOwn_lI ns)
theorem atI_map {α β : Type} (f : α → β) (xs : List α) (i : Int) : atI (xs.map f) i = (atI xs i).map f := by
  unfold atI
  rw [List.length_map]
  cases ixN xs.length i with
  | none => rfl
  | some j => simp
theorem atI_pos {α : Type} {xs : List α} {i : Int} (h0 : 0 ≤ i) (h1 : i < xs.length) (d : α) : atI xs i = some (xs.getD i.toNat d) := by
  unfold atI ixN
  rw [if_pos h0, if_pos h1]
  have : i.toNat < xs.length := by omega
  simp [List.getD, this]
theorem deq_int (i j : Int) : deq (.int i) (.int j) = decide (i = j) := by
  show (i == j) = _
  rw [Bool.beq_eq_decide_eq]
theorem deq_str (i j : Str) : deq (.str i) (.str j) = decide (i = j) := by
  show (i == j) = _
  rw [Bool.beq_eq_decide_eq]
theorem deq_bl (i j : Bool) : deq (.bl i) (.bl j) = decide (i = j) := by
  show (i == j) = _
  rw [Bool.beq_eq_decide_eq]
theorem rng_get {lo : Int} {n k : Nat} {d : D} (h : (rngD lo n)[k]? = some d) : k < n ∧ d = .int (lo + (k : Nat)) := by
  unfold rngD at h
  rw [List.getElem?_map] at h
  cases e : (List.range n)[k]? with
  | none => rw [e] at h; cases h
  | some x =>
    rw [e] at h
    have := List.getElem?_eq_some_iff.mp e
    obtain ⟨hk, hx⟩ := this
    rw [List.getElem_range] at hx
    rw [List.length_range] at hk
    subst hx
    exact ⟨hk, (Option.some.inj h).symm⟩
theorem rng_len (lo : Int) (n : Nat) : (rngD lo n).length = n := by unfold rngD; rw [List.length_map, List.length_range]
end VL
set_option maxHeartbeats 2000000
namespace VL
open PySem L2
/-! ### steps of a proof over data -/
theorem lc_int {i : Nat} {tt : TTD} {te : TED} {env : Env} {Q : D → Prop} (ns : List Int) (p : Int → Bool) (g : Int → D) (h1 : ∀ n ∈ ns, tt (env.set i (some (.int n))) fun b => b = p n)
    (h2 : ∀ n ∈ ns, p n = true → te (env.set i (some (.int n))) fun y => y = g n) (h3 : ns.length ≤ sizeLine) (q : Q (.lst true ((ns.filter p).map g))) :
    ∃ (p : D → Bool) (f : D → D), (∀ d ∈ ns.map D.int, tt (env.set i (some d)) fun b => b = p d) ∧ (∀ d ∈ ns.map D.int, p d = true → te (env.set i (some d)) fun y => y = f d) ∧ (ns.map D.int).length ≤ sizeLine ∧ Q (.lst true (((ns.map D.int).filter p).map f)) := by
  refine ⟨fun d => match d with | .int n => p n | _ => false, fun d => match d with | .int n => g n | _ => .non, ?_, ?_, by simpa using h3, ?_⟩
  · intro d m
    obtain ⟨n, hn, rfl⟩ := List.mem_map.mp m
    exact h1 n hn
  · intro d m hp
    obtain ⟨n, hn, rfl⟩ := List.mem_map.mp m
    exact h2 n hn hp
  · rw [List.filter_map, List.map_map]
    exact q
/-- over any list of data -/
theorem lc_map {α : Type} {i : Nat} {tt : TTD} {te : TED} {env : Env} {Q : D → Prop} (xs : List α) (c : α → D) (p : α → Bool) (g : α → D) (inj : ∀ a b, c a = c b → a = b) (h1 : ∀ n ∈ xs, tt (env.set i (some (c n))) fun b => b = p n)
    (h2 : ∀ n ∈ xs, p n = true → te (env.set i (some (c n))) fun y => y = g n) (h3 : xs.length ≤ sizeLine) (q : Q (.lst true ((xs.filter p).map g))) :
    ∃ (p : D → Bool) (f : D → D), (∀ d ∈ xs.map c, tt (env.set i (some d)) fun b => b = p d) ∧ (∀ d ∈ xs.map c, p d = true → te (env.set i (some d)) fun y => y = f d) ∧ (xs.map c).length ≤ sizeLine ∧ Q (.lst true (((xs.map c).filter p).map f)) := by
  classical
  have key : ∀ a : α, (∃ b, c b = c a) := fun a => ⟨a, rfl⟩
  refine ⟨fun d => if h : ∃ a, c a = d then p (Classical.choose h) else false, fun d => if h : ∃ a, c a = d then g (Classical.choose h) else .non, ?_, ?_, by simpa using h3, ?_⟩
  · intro d m
    obtain ⟨n, hn, rfl⟩ := List.mem_map.mp m
    have e : Classical.choose (key n) = n := inj _ _ (Classical.choose_spec (key n))
    simp only [key n, dif_pos, e]
    exact h1 n hn
  · intro d m hp
    obtain ⟨n, hn, rfl⟩ := List.mem_map.mp m
    have e : Classical.choose (key n) = n := inj _ _ (Classical.choose_spec (key n))
    simp only [key n, dif_pos, e] at hp ⊢
    exact h2 n hn hp
  · rw [List.filter_map, List.map_map]
    have e1 : (fun d => if h : ∃ a, c a = d then p (Classical.choose h) else false) ∘ c = p := by
      funext n
      have e : Classical.choose (key n) = n := inj _ _ (Classical.choose_spec (key n))
      simp only [Function.comp, key n, dif_pos, e]
    have e2 : (fun d => if h : ∃ a, c a = d then g (Classical.choose h) else .non) ∘ c = g := by
      funext n
      have e : Classical.choose (key n) = n := inj _ _ (Classical.choose_spec (key n))
      simp only [Function.comp, key n, dif_pos, e]
    rw [e1, e2]
    exact q
theorem for_rng1 {i : Nat} {u : TAD} {tb : TSD} {E : EndsD} {env : Env} {j : Int} (hu : ∀ Q : List D → Prop, Q [.int j] → u env Q) (h1 : -(2 ^ 62) ≤ j) (h2 : j < 2 ^ 62) (Pv : Nat → Env → Prop) (h0 : Pv 0 env)
    (hs : ∀ (k : Nat) env', (k : Int) < j → Pv k env' → tb { nx := Pv (k + 1), ct := Pv (k + 1), bk := E.nx, rt := E.rt } (env'.set i (some (.int (k : Nat))))) (hd : ∀ env', Pv j.toNat env' → E.nx env') : for_ i (rng1_ u) tb E env := by
  refine hu _ ⟨h1, h2, Pv, h0, fun k d env' hk pv => ?_, fun env' pv => ?_⟩
  · obtain ⟨hk, rfl⟩ := rng_get hk
    rw [Int.zero_add]
    exact hs k env' (by omega) pv
  · rw [rng_len] at pv
    exact hd env' pv
theorem for_list {i : Nat} {ti : TAD} {tb : TSD} {E : EndsD} {env : Env} {ds : List D} (hu : ∀ Q : List D → Prop, Q ds → ti env Q) (Pv : Nat → Env → Prop) (h0 : Pv 0 env)
    (hs : ∀ (k : Nat) d env', ds[k]? = some d → Pv k env' → tb { nx := Pv (k + 1), ct := Pv (k + 1), bk := E.nx, rt := E.rt } (env'.set i (some d))) (hd : ∀ env', Pv ds.length env' → E.nx env') : for_ i ti tb E env :=
  hu _ ⟨Pv, h0, hs, hd⟩
/-- over ints -/
theorem for_ints {i : Nat} {ti : TAD} {tb : TSD} {E : EndsD} {env : Env} {ns : List Int} (hu : ∀ Q : List D → Prop, Q (ns.map .int) → ti env Q) (Pv : Nat → Env → Prop) (h0 : Pv 0 env)
    (hs : ∀ (k : Nat) n env', ns[k]? = some n → Pv k env' → tb { nx := Pv (k + 1), ct := Pv (k + 1), bk := E.nx, rt := E.rt } (env'.set i (some (.int n)))) (hd : ∀ env', Pv ns.length env' → E.nx env') : for_ i ti tb E env := by
  refine for_list hu Pv h0 (fun k d env' h pv => ?_) fun env' pv => hd env' (by rwa [List.length_map] at pv)
  rw [List.getElem?_map] at h
  cases e : ns[k]? with
  | none => rw [e] at h; cases h
  | some n =>
    rw [e] at h
    cases h
    exact hs k n env' e pv
theorem toPdL_map {α : Type} (f : α → D) : ∀ xs : List α, toPdL (xs.map f) = xs.map fun x => toPd (f x)
  | [] => rfl
  | x :: xs => by rw [List.map_cons, toPdL, toPdL_map f xs]; rfl
theorem eqvAll_map {α β : Type} (f : α → PyData) (g : β → PyData) (r : α → β → Bool) (h : ∀ a b, PyData.eqv (f a) (g b) = r a b) : ∀ (xs : List α) (ys : List β), PyData.eqvAll (xs.map f) (ys.map g) = (decide (xs.length = ys.length) && (xs.zip ys).all fun p => r p.1 p.2)
  | [], [] => rfl
  | [], y :: ys => by simp [PyData.eqvAll]
  | x :: xs, [] => by simp [PyData.eqvAll]
  | x :: xs, y :: ys => by
    simp only [List.map_cons, PyData.eqvAll, eqvAll_map f g r h xs ys, h, List.length_cons, List.zip_cons_cons, List.all_cons, Nat.add_right_cancel_iff]
    cases r x y <;> simp
theorem eqvAll_inj {α : Type} [DecidableEq α] (f : α → PyData) (h : ∀ a b, PyData.eqv (f a) (f b) = decide (a = b)) : ∀ (xs ys : List α), PyData.eqvAll (xs.map f) (ys.map f) = decide (xs = ys)
  | [], [] => by simp [PyData.eqvAll]
  | [], y :: ys => by simp [PyData.eqvAll]
  | x :: xs, [] => by simp [PyData.eqvAll]
  | x :: xs, y :: ys => by
    simp only [List.map_cons, PyData.eqvAll, eqvAll_inj f h xs ys, h, List.cons.injEq, Bool.decide_and]
/-- == of two lists of one make -/
theorem deq_lst {α : Type} [DecidableEq α] (f : α → D) (h : ∀ a b, deq (f a) (f b) = decide (a = b)) (m m' : Bool) (xs ys : List α) : deq (.lst m (xs.map f)) (.lst m' (ys.map f)) = decide (xs = ys) := by
  show PyData.eqvAll (toPdL (xs.map f)) (toPdL (ys.map f)) = _
  rw [toPdL_map, toPdL_map]
  exact eqvAll_inj (fun x => toPd (f x)) h xs ys
theorem deq_lI (m m' : Bool) (xs ys : List Int) : deq (lI m xs) (lI m' ys) = decide (xs = ys) := deq_lst .int deq_int m m' xs ys
theorem eqOk_lI (m : Bool) (xs : List Int) (n : Nat) : eqOk (lI m xs) (n + 1) = true := by
  show eqOkL (xs.map .int) n = true
  rw [eqOkL_all]
  simp [eqOk]
theorem isT_ii (i : Int) : isT .int (.int i) = true := rfl
theorem isT_bi (i : Int) : isT .bool (.int i) = false := rfl
theorem isT_li (i : Int) : isT .list (.int i) = false := rfl
theorem isT_bb (b : Bool) : isT .bool (.bl b) = true := rfl
theorem isT_ib (b : Bool) : isT .int (.bl b) = true := rfl
theorem isT_ll (m : Bool) (xs : List D) : isT .list (.lst m xs) = true := rfl
theorem isT_tt (xs : List D) : isT .tuple (.tup xs) = true := rfl
theorem isT_lt (xs : List D) : isT .list (.tup xs) = false := rfl
theorem isT_tl (m : Bool) (xs : List D) : isT .tuple (.lst m xs) = false := rfl
theorem isT_ss (s : Str) : isT .str (.str s) = true := rfl
theorem isT_il (m : Bool) (xs : List D) : isT .int (.lst m xs) = false := rfl
theorem isT_it (xs : List D) : isT .int (.tup xs) = false := rfl
theorem isT_is (s : Str) : isT .int (.str s) = false := rfl
theorem isT_in : isT .int .non = false := rfl
theorem isT_ln : isT .list .non = false := rfl
theorem isT_tn : isT .tuple .non = false := rfl
theorem plain_i (i : Int) : plainD (.int i) = true := rfl
theorem plain_b (i : Bool) : plainD (.bl i) = true := rfl
theorem plain_s (i : Str) : plainD (.str i) = true := rfl
theorem plain_l (m : Bool) (xs : List D) : plainD (.lst m xs) = true := rfl
theorem plain_t (xs : List D) : plainD (.tup xs) = true := rfl
theorem plain_n : plainD .non = true := rfl
theorem atI_0 {α : Type} (x : α) (xs : List α) : atI (x :: xs) 0 = some x := by
  show atI (x :: xs) ((0 : Nat) : Int) = _
  exact atI_nat rfl
theorem atI_1 {α : Type} (x y : α) (xs : List α) : atI (x :: y :: xs) 1 = some y := by
  show atI (x :: y :: xs) ((1 : Nat) : Int) = _
  exact atI_nat rfl
theorem atI_2 {α : Type} (x y z : α) (xs : List α) : atI (x :: y :: z :: xs) 2 = some z := by
  show atI (x :: y :: z :: xs) ((2 : Nat) : Int) = _
  exact atI_nat rfl
theorem atI_3 {α : Type} (x y z u : α) (xs : List α) : atI (x :: y :: z :: u :: xs) 3 = some u := by
  show atI (x :: y :: z :: u :: xs) ((3 : Nat) : Int) = _
  exact atI_nat rfl
theorem atI_4 {α : Type} (x y z u v : α) (xs : List α) : atI (x :: y :: z :: u :: v :: xs) 4 = some v := by
  show atI (x :: y :: z :: u :: v :: xs) ((4 : Nat) : Int) = _
  exact atI_nat rfl
theorem atI_5 {α : Type} (x y z u v w : α) (xs : List α) : atI (x :: y :: z :: u :: v :: w :: xs) 5 = some w := by
  show atI (x :: y :: z :: u :: v :: w :: xs) ((5 : Nat) : Int) = _
  exact atI_nat rfl
/-- an item of a list of ints -/
theorem ix_lI {xs : List Int} {k : Int} {Q : D → Prop} (h0 : 0 ≤ k) (h1 : k < xs.length) (q : Q (.int (xs.getD k.toNat 0))) : ∃ d, atI (xs.map D.int) k = some d ∧ Q d :=
  ⟨_, by rw [atI_map, atI_pos h0 h1 0]; rfl, q⟩
theorem ix_lN {xs : List Int} {k : Nat} {Q : D → Prop} (h1 : k < xs.length) (q : Q (.int (xs.getD k 0))) : ∃ d, atI (xs.map D.int) (k : Int) = some d ∧ Q d :=
  ix_lI (by omega) (by omega) (by rwa [Int.toNat_natCast])
theorem ix_map {α : Type} {f : α → D} {xs : List α} {k : Int} {Q : D → Prop} (d : α) (h0 : 0 ≤ k) (h1 : k < xs.length) (q : Q (f (xs.getD k.toNat d))) : ∃ y, atI (xs.map f) k = some y ∧ Q y :=
  ⟨_, by rw [atI_map, atI_pos h0 h1 d]; rfl, q⟩
theorem getD_ge {α : Type} {xs : List α} {k : Nat} {d : α} (h : xs.length ≤ k) : xs.getD k d = d := by
  rw [List.getD_eq_getElem?_getD, List.getElem?_eq_none h]; rfl
theorem eq_of_getD {xs ys : List Int} (hl : xs.length = ys.length) (h : ∀ k : Nat, k < ys.length → xs.getD k 0 = ys.getD k 0) : xs = ys := by
  apply List.ext_getElem hl
  intro i h1 h2
  have := h i h2
  simpa [List.getD, h1, h2] using this
theorem lc_ints {i : Nat} {ti : TAD} {tt : TTD} {te : TED} {env : Env} {Q : D → Prop} {ns : List Int} (hu : ∀ Q : List D → Prop, Q (ns.map .int) → ti env Q) (p : Int → Bool) (g : Int → D) (h1 : ∀ n ∈ ns, tt (env.set i (some (.int n))) fun b => b = p n)
    (h2 : ∀ n ∈ ns, p n = true → te (env.set i (some (.int n))) fun y => y = g n) (h3 : ns.length ≤ sizeLine) (q : Q (.lst true ((ns.filter p).map g))) : lc_ i ti tt te env Q :=
  hu _ (lc_int ns p g h1 h2 h3 q)
theorem lc_intsA {i : Nat} {ti : TAD} {te : TED} {env : Env} {Q : D → Prop} {ns : List Int} (hu : ∀ Q : List D → Prop, Q (ns.map .int) → ti env Q) (g : Int → D)
    (h2 : ∀ n ∈ ns, te (env.set i (some (.int n))) fun y => y = g n) (h3 : ns.length ≤ sizeLine) (q : Q (.lst true (ns.map g))) : lc_ i ti yes_ te env Q :=
  hu _ (lc_int ns (fun _ => true) g (fun _ _ => rfl) (fun n hn _ => h2 n hn) h3 (by rwa [List.filter_eq_self.mpr fun _ _ => rfl]))
theorem sT {A X Y : Prop} (ha : A) (x : X) : (A → X) ∧ (¬A → Y) := ⟨fun _ => x, fun n => absurd ha n⟩
theorem sF {A X Y : Prop} (ha : ¬A) (y : Y) : (A → X) ∧ (¬A → Y) := ⟨fun n => absurd n ha, fun _ => y⟩
theorem frzL_map_id {α : Type} (f : α → D) (h : ∀ a, frz (f a) = f a) (xs : List α) : frzL (xs.map f) = xs.map f := by
  rw [frzL_map, List.map_map]
  exact List.map_congr_left fun a _ => h a
theorem noOwnL_map {α : Type} (f : α → D) (h : ∀ a, noOwn (f a) = true) (xs : List α) : noOwnL (xs.map f) = true := by
  rw [noOwnL_all, List.all_map]
  exact List.all_eq_true.mpr fun a _ => h a
theorem aloL_map {α : Type} (f : α → D) (h : ∀ a, alo (f a) = true) (xs : List α) : aloL (xs.map f) = true := by
  rw [aloL_all, List.all_map]
  exact List.all_eq_true.mpr fun a _ => h a
theorem take_all {α : Type} {p : α → Bool} {xs : List α} {k : Nat} {a : α} (e : xs[k]? = some a) (h : (xs.take k).all p = true) : (xs.take (k + 1)).all p = p a := by
  rw [List.take_add_one, e]
  simp [h]
theorem for_map {α : Type} {i : Nat} {ti : TAD} {tb : TSD} {E : EndsD} {env : Env} (f : α → D) {xs : List α} (hu : ∀ Q : List D → Prop, Q (xs.map f) → ti env Q) (Pv : Nat → Env → Prop) (h0 : Pv 0 env)
    (hs : ∀ (k : Nat) x env', xs[k]? = some x → Pv k env' → tb { nx := Pv (k + 1), ct := Pv (k + 1), bk := E.nx, rt := E.rt } (env'.set i (some (f x)))) (hd : ∀ env', Pv xs.length env' → E.nx env') : for_ i ti tb E env := by
  refine for_list hu Pv h0 (fun k d env' h pv => ?_) fun env' pv => hd env' (by rwa [List.length_map] at pv)
  rw [List.getElem?_map] at h
  cases e : xs[k]? with
  | none => rw [e] at h; cases h
  | some n =>
    rw [e] at h
    cases h
    exact hs k n env' e pv
theorem lc_maps {α : Type} {i : Nat} {ti : TAD} {tt : TTD} {te : TED} {env : Env} {Q : D → Prop} {xs : List α} (c : α → D) (inj : ∀ a b, c a = c b → a = b) (hu : ∀ Q : List D → Prop, Q (xs.map c) → ti env Q) (p : α → Bool) (g : α → D)
    (h1 : ∀ n ∈ xs, tt (env.set i (some (c n))) fun b => b = p n) (h2 : ∀ n ∈ xs, p n = true → te (env.set i (some (c n))) fun y => y = g n) (h3 : xs.length ≤ sizeLine) (q : Q (.lst true ((xs.filter p).map g))) : lc_ i ti tt te env Q :=
  hu _ (lc_map xs c p g inj h1 h2 h3 q)
/-! ### slices, == of a thing with itself -/
theorem cutD_to {α : Type} (xs : List α) {j : Int} (h : 0 ≤ j) : cutD xs none (some j) = xs.take j.toNat := by
  obtain ⟨n, rfl⟩ := Int.eq_ofNat_of_zero_le h
  unfold cutD
  rw [HT.sIx_none, HT.sIx_nat, List.drop_zero, Nat.sub_zero, Int.toNat_natCast]
  rw [List.take_eq_take_iff]
  omega
theorem cutD_from {α : Type} (xs : List α) {j : Int} (h : 0 ≤ j) : cutD xs (some j) none = xs.drop j.toNat := by
  obtain ⟨n, rfl⟩ := Int.eq_ofNat_of_zero_le h
  unfold cutD
  rw [HT.sIx_none, HT.sIx_nat, Int.toNat_natCast]
  by_cases hn : n ≤ xs.length
  · rw [Nat.min_eq_left hn, List.take_of_length_le (by rw [List.length_drop]; omega)]
  · rw [Nat.min_eq_right (by omega), List.drop_of_length_le (Nat.le_refl _), List.drop_of_length_le (by omega), List.take_nil]
mutual
theorem canLay_of : ∀ (d : D) (n : Nat), eqOk d n = true → (toPd d).canLay0 = true
  | .non, n, h => rfl
  | .bl _, n, h => rfl
  | .int _, n, h => rfl
  | .str _, n, h => h
  | .tup xs, 0, h => by rw [eqOk] at h; cases h
  | .tup xs, n + 1, h => by
    rw [eqOk] at h
    show PyData.canLay0 (.tuple (toPdL xs)) = true
    rw [PyData.canLay0]; exact canLayL_of xs n h
  | .lst m xs, 0, h => by rw [eqOk] at h; cases h
  | .lst m xs, n + 1, h => by
    rw [eqOk] at h
    show PyData.canLay0 (.list (toPdL xs)) = true
    rw [PyData.canLay0]; exact canLayL_of xs n h
  | .dic _ _ _, n, h => by rw [eqOk] at h; cases h
  | .dit _ _ _, n, h => by rw [eqOk] at h; cases h
  | .obj _ _ _ _, n, h => by rw [eqOk] at h; cases h
  | .opq, n, h => by rw [eqOk] at h; cases h
theorem canLayL_of : ∀ (d : List D) (n : Nat), eqOkL d n = true → PyData.canLayAll0 (toPdL d) = true
  | [], n, h => rfl
  | x :: xs, n, h => by
    rw [eqOkL] at h; simp only [Bool.and_eq_true] at h
    show PyData.canLayAll0 (toPd x :: toPdL xs) = true
    rw [PyData.canLayAll0, canLay_of x n h.1, canLayL_of xs n h.2]; rfl
end
end VL
set_option maxHeartbeats 2000000
namespace VL
open PySem L2 PyProof.Rows
/-! ### a place within a datum -/
section
variable {K : PySem.W.Frag} {cs : Cs} {H H' : Hp} {Z Z' : Addr → Prop}
/-- what must stay while the place is changed -/
abbrev Keeps (H : Hp) (Z : Addr → Prop) (F1 F2 : List Addr) (H' : Hp) : Prop := ∀ a o, H a = some o → NT o → (a ∈ F1 ∨ a ∈ F2 ∨ Z a ∨ ¬ Mut (some o)) → H' a = some o
theorem RL.foc {x : D} : ∀ {xs : List D} {vs : List V} {F : List Addr} {j : Nat}, RL K cs H Z xs vs F → xs[j]? = some x → ∃ w F1 Fe F2, vs[j]? = some w ∧ F = F1 ++ (Fe ++ F2) ∧ R K cs H Z x w Fe ∧
    ∀ H' Z' x' w' Fe', (∀ a, Z a → Z' a) → Keeps H Z F1 F2 H' → R K cs H' Z' x' w' Fe' → RL K cs H' Z' (xs.set j x') (vs.set j w') (F1 ++ (Fe' ++ F2))
  | [], _, _, j, _, e => by simp at e
  | y :: ys, vs, F, 0, r, e => by
    obtain ⟨v, vs', F1, F2, rfl, r1, r2, rfl⟩ := r
    have e : y = x := by simpa using e
    subst e
    refine ⟨v, [], F1, F2, rfl, rfl, r1, fun H' Z' x' w' Fe' hz k re => ?_⟩
    exact ⟨w', vs', Fe', F2, rfl, re, RL.keep hz ys vs' F2 (fun a o h n q => k a o h n (q.elim (fun m => .inr (.inl m)) fun q => .inr (.inr q))) r2, rfl⟩
  | y :: ys, vs, F, j + 1, r, e => by
    obtain ⟨v, vs', F1, F2, rfl, r1, r2, rfl⟩ := r
    obtain ⟨w, G1, Ge, G2, hw, hF, re, up⟩ := RL.foc (j := j) r2 (by simpa using e)
    subst hF
    refine ⟨w, F1 ++ G1, Ge, G2, by simpa using hw, by simp only [List.append_assoc], re, fun H' Z' x' w' Fe' hz k re' => ?_⟩
    refine ⟨v, vs'.set j w', F1, G1 ++ (Fe' ++ G2), rfl, R.keep hz y v F1 (fun a o h n q => k a o h n (q.imp_left (List.mem_append_left _) |>.elim .inl fun q => .inr (.inr q))) r1, up H' Z' x' w' Fe' hz (fun a o h n q => k a o h n ?_) re', by simp only [List.append_assoc]⟩
    rcases q with q | q | q
    · exact .inl (List.mem_append_right _ q)
    · exact .inr (.inl q)
    · exact .inr (.inr q)
/-- e, at u, is a part of the datum at v; put: the datum by the part -/
def Foc (K : PySem.W.Frag) (cs : Cs) (H : Hp) (Z : Addr → Prop) (v : V) (F : List Addr) (e : D) (u : V) (put : D → D) : Prop :=
  ∃ F1 Fe F2, F = F1 ++ (Fe ++ F2) ∧ R K cs H Z e u Fe ∧ ∀ H' Z' e' Fe', (∀ a, Z a → Z' a) → Keeps H Z F1 F2 H' → R K cs H' Z' e' u Fe' → R K cs H' Z' (put e') v (F1 ++ (Fe' ++ F2))
theorem Foc.self {d : D} {v : V} {F : List Addr} (r : R K cs H Z d v F) : Foc K cs H Z v F d v id :=
  ⟨[], F, [], by simp, r, fun H' Z' e' Fe' hz k re => by simpa using re⟩
theorem Foc.ext {v : V} {F : List Addr} {e : D} {u : V} {put : D → D} (x : Ext cs H H' Z Z') (f : Foc K cs H Z v F e u put) : Foc K cs H' Z' v F e u put := by
  obtain ⟨F1, Fe, F2, hF, re, up⟩ := f
  exact ⟨F1, Fe, F2, hF, re.ext x, fun H2 Z2 e' Fe' hz k re' => up H2 Z2 e' Fe' (fun a z => hz a (x.up a z)) (fun a o h n q => k a o (x.same.keep a o h n) n (q.imp_right fun q => q.imp_right fun q => q.imp_left (x.up a))) re'⟩
theorem Foc.here {v : V} {F : List Addr} {e : D} {u : V} {put : D → D} (f : Foc K cs H Z v F e u put) : ∃ Fe, R K cs H Z e u Fe := let ⟨_, Fe, _, _, r, _⟩ := f; ⟨Fe, r⟩
/-- one step further in -/
theorem Foc.go {v : V} {F : List Addr} {e : D} {u : V} {put : D → D} (f : Foc K cs H Z v F e u put) {c : D → D} {x : D} {Pw : V → Prop}
    (s : ∀ Fe, R K cs H Z e u Fe → ∃ w, Pw w ∧ Foc K cs H Z u Fe x w c) : ∃ w, Pw w ∧ Foc K cs H Z v F x w (put ∘ c) := by
  obtain ⟨F1, Fe, F2, hF, re, up⟩ := f
  obtain ⟨w, pw, G1, Ge, G2, hG, rx, up2⟩ := s Fe re
  subst hG
  refine ⟨w, pw, F1 ++ G1, Ge, G2 ++ F2, by rw [hF]; simp only [List.append_assoc], rx, fun H' Z' x' Fx' hz k rx' => ?_⟩
  have h1 := up2 H' Z' x' Fx' hz (fun a o h n q => k a o h n ?_) rx'
  · have h2 := up H' Z' (c x') _ hz (fun a o h n q => k a o h n ?_) h1
    · simp only [List.append_assoc] at h2 ⊢; exact h2
    · rcases q with q | q | q
      · exact .inl (List.mem_append_left _ q)
      · exact .inr (.inl (List.mem_append_right _ q))
      · exact .inr (.inr q)
  · rcases q with q | q | q
    · exact .inl (List.mem_append_right _ q)
    · exact .inr (.inl (List.mem_append_left _ q))
    · exact .inr (.inr q)
theorem foc_tup {xs : List D} {u : V} {Fe : List Addr} {j : Nat} {x : D} (r : R K cs H Z (.tup xs) u Fe) (h : xs[j]? = some x) : ∃ a vs w, u = .ref a ∧ SqT K H a vs ∧ vs[j]? = some w ∧ vs.length = xs.length ∧ Foc K cs H Z u Fe x w fun e' => .tup (xs.set j e') := by
  obtain ⟨a, vs, rfl, t, rl⟩ := r
  obtain ⟨w, F1, F0, F2, hw, hF, re, up⟩ := RL.foc rl h
  refine ⟨a, vs, w, rfl, t, hw, rl.len, F1, F0, F2, hF, re, fun H' Z' e' Fe' hz k re' => ?_⟩
  have := up H' Z' e' w Fe' hz k re'
  rw [set_id hw] at this
  exact ⟨a, vs, rfl, sqt_kp t fun b o e n m => k b o e n (.inr (.inr (.inr m))), this⟩
theorem foc_lst {xs : List D} {u : V} {Fe : List Addr} {j : Nat} {x : D} (r : R K cs H Z (.lst true xs) u Fe) (h : xs[j]? = some x) : ∃ a vs w, u = .ref a ∧ H a = some (.lst vs) ∧ vs[j]? = some w ∧ vs.length = xs.length ∧ Foc K cs H Z u Fe x w fun e' => .lst true (xs.set j e') := by
  obtain ⟨a, vs, F', rfl, t, rl, rfl⟩ := r
  obtain ⟨w, F1, F0, F2, hw, hF, re, up⟩ := RL.foc rl h
  subst hF
  refine ⟨a, vs, w, rfl, t, hw, rl.len, a :: F1, F0, F2, rfl, re, fun H' Z' e' Fe' hz k re' => ?_⟩
  have := up H' Z' e' w Fe' hz (fun b o e n q => k b o e n (q.imp_left (List.mem_cons_of_mem _))) re'
  rw [set_id hw] at this
  exact ⟨a, vs, _, rfl, k a _ t (fun _ z => by cases z) (.inl List.mem_cons_self), this, rfl⟩
theorem foc_obj {c : Str} {ns : List Str} {xs : List D} {u : V} {Fe : List Addr} {j : Nat} {x : D} (r : R K cs H Z (.obj true c ns xs) u Fe) (h : xs[j]? = some x) : ∃ a dx ci vs w, u = .ref a ∧ ci ∈ cs ∧ ci.name = c ∧ (∀ n ∈ ns, n ∈ ci.fields) ∧ H a = some (.ins ci.addr dx (ns.zip vs)) ∧ vs[j]? = some w ∧ vs.length = xs.length ∧ ns.length = xs.length ∧ Foc K cs H Z u Fe x w fun e' => .obj true c ns (xs.set j e') := by
  obtain ⟨a, dx, ci, vs, F', rfl, m, n, fl, t, l, rl, rfl⟩ := r
  obtain ⟨w, F1, F0, F2, hw, hF, re, up⟩ := RL.foc rl h
  subst hF
  refine ⟨a, dx, ci, vs, w, rfl, m, n, fl, t, hw, rl.len, l, a :: F1, F0, F2, rfl, re, fun H' Z' e' Fe' hz k re' => ?_⟩
  have := up H' Z' e' w Fe' hz (fun b o e n q => k b o e n (q.imp_left (List.mem_cons_of_mem _))) re'
  rw [set_id hw] at this
  exact ⟨a, dx, ci, vs, _, rfl, m, n, fl, k a _ t (fun _ z => by cases z) (.inl List.mem_cons_self), by rw [l, List.length_set], this, rfl⟩
/-- a part of a slot's datum is changed in its place -/
theorem Rel.focus {e : En} {σ : L2.St} {env : Env} {Fs : Nat → List Addr} (r : Rel K cs e H Z σ env Fs) {i : Nat} {d : D} {v : V} {F1 Fe F2 Fe' : List Addr} {d' : D} (hd : env[i]? = some (some d)) (hσ : σ[i]? = some (some v)) (hF : Fs i = F1 ++ (Fe ++ F2))
    (rd : R K cs H' Z' d' v (F1 ++ (Fe' ++ F2))) (up : ∀ a, Z a → Z' a) (zn : ∀ a, Z' a → Z a ∨ (H a = none ∧ ∃ o, H' a = some o)) (kp : ∀ a o, H a = some o → (a ∉ Fe ∨ ¬ Mut (some o)) → H' a = some o)
    (nd : Fe'.Nodup) (hfe : ∀ a ∈ Fe', ¬ Z' a ∧ (a ∈ Fe ∨ ((∀ j, a ∉ Fs j) ∧ (e.W a ∨ e.H0 a = none)))) : ∃ Fs', Rel K cs e H' Z' σ (env.set i (some d')) Fs' ∧ (∀ j, j ≠ i → Fs' j = Fs j) ∧ Fs' i = F1 ++ (Fe' ++ F2) := by
  have hi : i < env.length := (List.getElem?_eq_some_iff.mp hd).1
  have inF : ∀ a, a ∈ F1 ∨ a ∈ Fe ∨ a ∈ F2 → a ∈ Fs i := fun a m => by
    rw [hF]; simp only [List.mem_append]; exact m
  have ndF := r.nd i
  rw [hF] at ndF
  have n1 := List.nodup_append.mp ndF
  have n2 := List.nodup_append.mp n1.2.1
  have memF' : ∀ a, a ∈ F1 ++ (Fe' ++ F2) → a ∈ Fs i ∨ (((∀ j, a ∉ Fs j) ∧ (e.W a ∨ e.H0 a = none)) ∧ a ∈ Fe') := fun a m => by
    simp only [List.mem_append] at m
    rcases m with m | m | m
    · exact .inl (inF a (.inl m))
    · rcases (hfe a m).2 with q | q
      · exact .inl (inF a (.inr (.inl q)))
      · exact .inr ⟨q, m⟩
    · exact .inl (inF a (.inr (.inr m)))
  have none_in : ∀ a j, H a = none → a ∉ Fs j := fun a j h m => by
    obtain ⟨o, w⟩ := r.alloc m
    rw [h] at w; cases w
  refine ⟨fun j => if j = i then F1 ++ (Fe' ++ F2) else Fs j, ?_, fun j h => if_neg h, if_pos rfl⟩
  refine ⟨fun j x q => ?_, fun j q => ?_, fun j => ?_, fun j k a jk m => ?_, fun j a m => ?_, fun a z => ?_, fun j a m => ?_, fun a o h nt w => ?_, fun a o h => ?_, ?_, fun a z => up a (r.z0 a z), fun a z => ?_, r.io, fun p m => ?_, by simp [r.len]⟩
  · by_cases ej : j = i
    · subst ej
      rw [List.getElem?_set_self hi] at q
      cases q
      exact ⟨v, hσ, by rw [if_pos rfl]; exact rd⟩
    · rw [List.getElem?_set_ne (Ne.symm ej)] at q
      obtain ⟨w, h1, h2⟩ := r.slot j x q
      refine ⟨w, h1, ?_⟩
      rw [if_neg ej]
      refine R.keep up x w (Fs j) (fun a o h _ m => kp a o h ?_) h2
      rcases m with m | m | m
      · exact .inl fun n => r.dj j i a ej m (inF a (.inr (.inl n)))
      · exact .inl fun n => r.dz i a (inF a (.inr (.inl n))) m
      · exact .inr m
  · show (if j = i then F1 ++ (Fe' ++ F2) else Fs j) = []
    have ej : j ≠ i := fun w => q d' (by rw [w, List.getElem?_set_self hi])
    rw [if_neg ej]
    exact r.off j fun x w => q x (by rw [List.getElem?_set_ne (Ne.symm ej)]; exact w)
  · show (if j = i then F1 ++ (Fe' ++ F2) else Fs j).Nodup
    by_cases ej : j = i
    · rw [if_pos ej]
      refine List.nodup_append.mpr ⟨n1.1, List.nodup_append.mpr ⟨nd, n2.2.1, fun a m b n q => ?_⟩, fun a m b n q => ?_⟩
      · subst q
        rcases (hfe a m).2 with z | z
        · exact n2.2.2 a z a n rfl
        · exact z.1 i (inF a (.inr (.inr n)))
      · subst q
        rcases List.mem_append.mp n with n | n
        · rcases (hfe a n).2 with z | z
          · exact n1.2.2 a m a (List.mem_append_left _ z) rfl
          · exact z.1 i (inF a (.inl m))
        · exact n1.2.2 a m a (List.mem_append_right _ n) rfl
    · rw [if_neg ej]; exact r.nd j
  · show a ∉ (if k = i then F1 ++ (Fe' ++ F2) else Fs k)
    have m : a ∈ (if j = i then F1 ++ (Fe' ++ F2) else Fs j) := m
    by_cases ej : j = i
    · rw [if_pos ej] at m
      have ek : k ≠ i := fun q => jk (ej.trans q.symm)
      rw [if_neg ek]
      rcases memF' a m with m | m
      · exact r.dj i k a (Ne.symm ek) m
      · exact m.1.1 k
    · rw [if_neg ej] at m
      by_cases ek : k = i
      · rw [if_pos ek]
        intro n
        rcases memF' a n with n | n
        · exact r.dj j i a ej m n
        · exact n.1.1 j m
      · rw [if_neg ek]; exact r.dj j k a jk m
  · have m : a ∈ (if j = i then F1 ++ (Fe' ++ F2) else Fs j) := m
    have old : ∀ j, a ∈ Fs j → ¬ Z' a := fun j m z => by
      rcases zn a z with z | z
      · exact r.dz j a m z
      · exact none_in a j z.1 m
    by_cases ej : j = i
    · rw [if_pos ej] at m
      rcases memF' a m with m | m
      · exact old i m
      · exact (hfe a m.2).1
    · rw [if_neg ej] at m; exact old j m
  · rcases zn a z with z | z
    · obtain ⟨o, w⟩ := r.za a z
      exact ⟨o, kp a o w (.inl fun n => r.dz i a (inF a (.inr (.inl n))) z)⟩
    · exact z.2
  · have m : a ∈ (if j = i then F1 ++ (Fe' ++ F2) else Fs j) := m
    by_cases ej : j = i
    · rw [if_pos ej] at m
      rcases memF' a m with m | m
      · exact r.own i a m
      · exact m.1.2
    · rw [if_neg ej] at m; exact r.own j a m
  · refine kp a o (r.fr a o h nt w) (.inl fun n => ?_)
    rcases r.own i a (inF a (.inr (.inl n))) with q | q
    · exact w q
    · rw [q] at h; cases h
  · rcases r.th a o h with w | ⟨o2, w⟩
    · exact .inl w
    · by_cases n : a ∈ Fe
      · rcases r.own i a (inF a (.inr (.inl n))) with q | q
        · exact .inl q
        · rw [q] at h; cases h
      · exact .inr ⟨o2, kp a o2 w (.inl n)⟩
  · refine tabs_keep r.tb fun b u q n => kp b u q (.inl fun m => ?_)
    obtain ⟨v2, _, g2⟩ := r.slot i d hd
    obtain ⟨o2, e2, m2⟩ := R.allocM d v2 _ g2 b (inF b (.inr (.inl m)))
    rw [q] at e2; cases e2
    exact n m2
  · rcases zn a z with z | z
    · exact r.z1 a z
    · rcases r.free0 z.1 with w | w
      · exact .inr (.inr w)
      · exact .inr (.inl w)
  · refine R.keep up p.1 p.2 [] (fun a o h _ q => kp a o h ?_) (r.gs p m)
    rcases q with q | q | q
    · cases q
    · exact .inl fun n => r.dz i a (inF a (.inr (.inl n))) q
    · exact .inr q
/-- the same through a place -/
theorem Rel.foc_put {e : En} {σ : L2.St} {env : Env} {Fs : Nat → List Addr} (r : Rel K cs e H Z σ env Fs) {i : Nat} {d x x' : D} {v u : V} {put : D → D} (hd : env[i]? = some (some d)) (hσ : σ[i]? = some (some v)) (f : Foc K cs H Z v (Fs i) x u put)
    (h : ∀ F1 Fe F2, Fs i = F1 ++ (Fe ++ F2) → Fe.Nodup → (∀ a ∈ Fe, a ∉ F1 ∧ a ∉ F2 ∧ ¬ Z a ∧ (e.W a ∨ e.H0 a = none) ∧ ∀ j, j ≠ i → a ∉ Fs j) → R K cs H Z x u Fe → ∃ Fe', R K cs H' Z' x' u Fe' ∧ (∀ a, Z a → Z' a) ∧ (∀ a, Z' a → Z a ∨ (H a = none ∧ ∃ o, H' a = some o)) ∧ (∀ a o, H a = some o → (a ∉ Fe ∨ ¬ Mut (some o)) → H' a = some o) ∧
      Fe'.Nodup ∧ ∀ a ∈ Fe', ¬ Z' a ∧ (a ∈ Fe ∨ ((∀ j, a ∉ Fs j) ∧ (e.W a ∨ e.H0 a = none)))) : ∃ Fs', Rel K cs e H' Z' σ (env.set i (some (put x'))) Fs' ∧ (∀ j, j ≠ i → Fs' j = Fs j) := by
  obtain ⟨F1, Fe, F2, hF, re, up⟩ := f
  have ndF := r.nd i
  rw [hF] at ndF
  have n1 := List.nodup_append.mp ndF
  have n2 := List.nodup_append.mp n1.2.1
  have inF : ∀ a, a ∈ Fe → a ∈ Fs i := fun a m => by
    rw [hF]; simp only [List.mem_append]; exact .inr (.inl m)
  obtain ⟨Fe', re', uz, zn, kp, nd, hfe⟩ := h F1 Fe F2 hF n2.1 (fun a m => ⟨fun n => n1.2.2 a n a (List.mem_append_left _ m) rfl, fun n => n2.2.2 a m a n rfl, r.dz i a (inF a m), r.own i a (inF a m), fun j ej n => r.dj j i a ej n (inF a m)⟩) re
  have kk : Keeps H Z F1 F2 H' := fun a o ho _ q => kp a o ho (by
    rcases q with q | q | q | q
    · exact .inl fun m => n1.2.2 a q a (List.mem_append_left _ m) rfl
    · exact .inl fun m => n2.2.2 a m a q rfl
    · exact .inl fun m => r.dz i a (inF a m) q
    · exact .inr q)
  obtain ⟨Fs', r', k1, k2⟩ := r.focus hd hσ hF (up H' Z' x' Fe' uz kk re') uz zn kp nd hfe
  exact ⟨Fs', r', k1⟩
end

/-! ### paths: the place of a part of a slot's datum -/
abbrev TPD := Env → ((D → D) → D → Prop) → Prop
def tOfPa (K : PySem.W.Frag) (cs : Cs) (i : Nat) (t : TPD) : TE := fun σ H Q => ∃ e env Z Fs, Rel K cs e H Z σ env Fs ∧ ∃ QD, t env QD ∧
  ∀ u H' Z' put d0 d v, Ext cs H H' Z Z' → σ[i]? = some (some v) → env[i]? = some (some d0) → Foc K cs H' Z' v (Fs i) d u put → QD put d → Q u H'
structure VPa (X : Cx) (cs : Cs) (i : Nat) (e : Expr) (t : TPD) : Prop where
  run : PE X e (tOfPa X.K cs i t)
section
variable {X : Cx} {cs : Cs} {L : List Nat} {a b c : Expr} {pos : Pos} {ta tb : TED} {st : Stmt} {tp : TPD} {i : Nat}
def pv_ (i : Nat) : TPD := fun env Q => ∃ d, env[i]? = some (some d) ∧ Q id d
theorem pa_v (i : Nat) {x : Str} {pos : Pos} (hN : X.N[i]? = some x := by rfl) (hv : Vis X.env.scope x := by first | exact Or.inl rfl | exact Or.inr (Or.inl rfl) | exact Or.inr (Or.inr rfl)) (hd : (x == ("__debug__" : Str)) = false := by decide)
    (hcd : (x == ("__classdict__" : Str)) = false := by decide) : VPa X cs i (.Name x pos) (pv_ i) :=
  ⟨pe_weak (pe_var hN hv hd hcd) fun σ H Q ⟨e, env, Z, Fs, r, QD, ⟨d, q, qd⟩, k⟩ => by
    obtain ⟨v, h1, h2⟩ := r.slot i d q
    exact ⟨v, h1, k v H Z id d d v (Ext.refl H Z) h1 q (Foc.self h2) qd⟩⟩
def dPx : D → D → ((D → D) → D → Prop) → Prop
  | .tup xs, .int k, Q => ∃ j, ixN xs.length k = some j ∧ ∃ x, xs[j]? = some x ∧ Q (fun e' => .tup (xs.set j e')) x
  | .lst true xs, .int k, Q => ∃ j, ixN xs.length k = some j ∧ ∃ x, xs[j]? = some x ∧ Q (fun e' => .lst true (xs.set j e')) x
  | _, _, _ => False
def pix_ (tp : TPD) (tb : TED) : TPD := fun env Q => tp env fun put d => tb env fun k => dPx d k fun c x => Q (put ∘ c) x
theorem pa_ix (ha : VPa X cs i a tp) (hb : VP X cs b tb) (hs : PlainIx b := by first | exact (fun _ _ => rfl) | assumption) : VPa X cs i (.Subscript a b pos) (pix_ tp tb) :=
  ⟨pe_weak (pe_ix ix_seq ha.run hb.run hs) fun σ H Q ⟨e, env, Z, Fs, rl, QD, q, k⟩ => ⟨e, env, Z, Fs, rl, _, q, fun u H1 Z1 put d0 d v x1 hσ he fo q1 => ⟨e, env, Z1, Fs, rl.ext x1, _, q1, fun w H2 Z2 d2 G x2 rw q2 => by
    have fo := fo.ext x2
    cases d2 with
    | int m =>
      cases d with
      | tup xs =>
        obtain ⟨j, hj, x, hx, q2⟩ := q2
        obtain ⟨w', ⟨p, vs, rfl, t, hat⟩, fo2⟩ := fo.go (Pw := fun w' => ∃ p vs, u = .ref p ∧ SqT X.K H2 p vs ∧ atI vs m = some w') fun Fe r => by
          obtain ⟨p, vs, w', e, t, hw, hl, f2⟩ := foc_tup r hx
          exact ⟨w', ⟨p, vs, e, t, by unfold atI; rw [hl, hj]; exact hw⟩, f2⟩
        exact .inr (.inl ⟨p, vs, m, w', rfl, rw.1, t, hat, k w' H2 Z2 _ d0 x v (x1.trans x2) hσ he fo2 q2⟩)
      | lst mm xs =>
        cases mm with
        | false => exact False.elim q2
        | true =>
          obtain ⟨j, hj, x, hx, q2⟩ := q2
          obtain ⟨w', ⟨p, vs, rfl, t, hat⟩, fo2⟩ := fo.go (Pw := fun w' => ∃ p vs, u = .ref p ∧ H2 p = some (.lst vs) ∧ atI vs m = some w') fun Fe r => by
            obtain ⟨p, vs, w', e, t, hw, hl, f2⟩ := foc_lst r hx
            exact ⟨w', ⟨p, vs, e, t, by unfold atI; rw [hl, hj]; exact hw⟩, f2⟩
          exact .inl ⟨p, vs, m, w', rfl, rw.1, SqL.of t, hat, k w' H2 Z2 _ d0 x v (x1.trans x2) hσ he fo2 q2⟩
      | _ => exact False.elim q2
    | _ => exact False.elim (by unfold dPx at q2; split at q2 <;> simp_all)⟩⟩⟩
/-- an attribute -/
def dPf (f : Str) : D → ((D → D) → D → Prop) → Prop
  | .obj true c ns xs, Q => ∃ j, ns.findIdx? (· == f) = some j ∧ ∃ x, xs[j]? = some x ∧ Q (fun e' => .obj true c ns (xs.set j e')) x
  | _, _ => False
def pfl_ (f : Str) (tp : TPD) : TPD := fun env Q => tp env fun put d => dPf f d fun c x => Q (put ∘ c) x
theorem lookup_idx {α : Type} {f : Str} : ∀ {ns : List Str} {vs : List α} {j : Nat}, ns.findIdx? (· == f) = some j → (ns.zip vs).lookup f = vs[j]?
  | [], vs, j, h => by simp at h
  | n :: ns, [], j, h => by simp
  | n :: ns, v :: vs, j, h => by
    rw [List.findIdx?_cons] at h
    rw [List.zip_cons_cons, List.lookup_cons]
    cases e : n == f with
    | true =>
      rw [beq_iff_eq] at e; subst e
      rw [beq_self_eq_true] at h ⊢
      simp at h; subst h; rfl
    | false =>
      rw [e] at h
      have e2 : (f == n) = false := by rw [beq_eq_false_iff_ne] at e ⊢; exact Ne.symm e
      rw [e2]
      simp at h
      obtain ⟨k, hk, rfl⟩ := h
      simpa using lookup_idx hk
theorem idx_mem {f : Str} {ns : List Str} {j : Nat} (h : ns.findIdx? (· == f) = some j) : f ∈ ns := by
  rw [List.findIdx?_eq_some_iff_getElem] at h
  obtain ⟨hj, e, _⟩ := h
  rw [beq_iff_eq] at e
  rw [← e]; exact List.getElem_mem hj
theorem pa_fld {f : Str} (hC : CsOk X.K cs) (ha : VPa X cs i a tp) (hb : attributeBase a f X.env (eval a X.env) = eval a X.env := by rfl) : VPa X cs i (.Attribute a f pos) (pfl_ f tp) :=
  ⟨pe_weak (pe_fld ha.run hb) fun σ H Q ⟨e, env, Z, Fs, rl, QD, q, k⟩ => ⟨e, env, Z, Fs, rl, _, q, fun u H1 Z1 put d0 d v x1 hσ he fo q1 => by
    unfold dPf at q1
    split at q1
    · rename_i c ns xs
      obtain ⟨j, hj, x, hx, q1⟩ := q1
      obtain ⟨w', ⟨p, dx, ci, vs, rfl, mem, fl, t, hat⟩, fo2⟩ := fo.go (Pw := fun w' => ∃ p dx ci vs, u = .ref p ∧ ci ∈ cs ∧ (∀ n ∈ ns, n ∈ ci.fields) ∧ H1 p = some (.ins ci.addr dx (ns.zip vs)) ∧ vs[j]? = some w') fun Fe r => by
        obtain ⟨p, dx, ci, vs, w', e, mem, _, fl, t, hw, hl, l, f2⟩ := foc_obj r hx
        exact ⟨w', ⟨p, dx, ci, vs, e, mem, fl, t, hw⟩, f2⟩
      exact ⟨p, ci.addr, dx, _, w', rfl, t, (hC ci mem).1, (hC ci mem).2 f (fl f (idx_mem hj)), by rw [lookup_idx hj]; exact hat, k w' H1 Z1 _ d0 x v x1 hσ he fo2 q1⟩
    · exact False.elim q1⟩⟩

/-- a list at a place is written -/
theorem Rel.foc_lstw {K : PySem.W.Frag} {e : En} {H : Hp} {Z : Addr → Prop} {σ : L2.St} {env : Env} {Fs : Nat → List Addr} (r : Rel K cs e H Z σ env Fs) {d : D} {v u : V} {put : D → D} {xs : List D} (hd : env[i]? = some (some d)) (hσ : σ[i]? = some (some v)) (f : Foc K cs H Z v (Fs i) (.lst true xs) u put) :
    ∃ p vs, u = .ref p ∧ H p = some (.lst vs) ∧ vs.length = xs.length ∧ ∀ (xs' : List D) (vs' : List V) (Fx : List Addr), (∀ a ∈ Fx, ¬ Z a ∧ (∃ o, H a = some o) ∧ (∀ j, a ∉ Fs j) ∧ (e.W a ∨ e.H0 a = none)) →
      (∀ F', RL K cs H Z xs vs F' → F'.Nodup → (∀ a ∈ F', a ∉ Fx) → ∃ F'', RL K cs H Z xs' vs' F'' ∧ F''.Nodup ∧ ∀ a ∈ F'', a ∈ F' ∨ a ∈ Fx) → ∃ Fs', Rel K cs e (upd H p (.lst vs')) Z σ (env.set i (some (put (.lst true xs')))) Fs' := by
  obtain ⟨Fe0, re0⟩ := f.here
  obtain ⟨p, vs, F0, rfl, t, rl0, _⟩ := re0
  refine ⟨p, vs, rfl, t, rl0.len, fun xs' vs' Fx hx hr => ?_⟩
  obtain ⟨Fs', r', _⟩ := r.foc_put (H' := upd H p (.lst vs')) (Z' := Z) (x' := .lst true xs') hd hσ f fun F1 Fe F2 hF nd hm re => by
    obtain ⟨q, ws, F', e1, t1, rl, hFe⟩ := re
    cases e1
    rw [t] at t1; cases t1
    subst hFe
    have inFs : ∀ a ∈ p :: F', a ∈ Fs i := fun a m => by rw [hF]; simp only [List.mem_append]; exact .inr (.inl m)
    have np := List.nodup_cons.mp nd
    obtain ⟨F'', rl2, nd2, h2⟩ := hr F' rl np.2 fun a m n => (hx a n).2.2.1 i (inFs a (List.mem_cons_of_mem _ m))
    have np2 : p ∉ F'' := fun m => by
      rcases h2 p m with m | m
      · exact np.1 m
      · exact (hx p m).2.2.1 i (inFs p List.mem_cons_self)
    refine ⟨p :: F'', ⟨p, vs', F'', rfl, upd_same, RL.writes rl2 t trivial np2 (hm p List.mem_cons_self).2.2.1, rfl⟩, fun _ z => z, fun _ z => .inl z, fun a o ho q => ?_, List.nodup_cons.mpr ⟨np2, nd2⟩, fun a m => ?_⟩
    · rw [upd_ne]
      · exact ho
      · intro w; subst w
        rw [t] at ho; cases ho
        rcases q with q | q
        · exact q List.mem_cons_self
        · exact q trivial
    · rcases List.mem_cons.mp m with rfl | m
      · exact ⟨(hm a List.mem_cons_self).2.2.1, .inl List.mem_cons_self⟩
      · rcases h2 a m with m | m
        · exact ⟨(hm a (List.mem_cons_of_mem _ m)).2.2.1, .inl (List.mem_cons_of_mem _ m)⟩
        · exact ⟨(hx a m).1, .inr (hx a m).2.2⟩
  exact ⟨Fs', r'⟩
/-- what an argument brings is new to the slots -/
theorem Rel.newto {K : PySem.W.Frag} {e : En} {H H' : Hp} {Z Z' : Addr → Prop} {σ : L2.St} {env : Env} {Fs : Nat → List Addr} (rl : Rel K cs e H Z σ env Fs) {d : D} {v : V} {F : List Addr} (r : R K cs H' Z' d v F) (fre : ∀ a ∈ F, H a = none ∧ ¬ Z' a) :
    ∀ a ∈ F, ¬ Z' a ∧ (∃ o, H' a = some o) ∧ (∀ j, a ∉ Fs j) ∧ (e.W a ∨ e.H0 a = none) := fun a m =>
  ⟨(fre a m).2, R.alloc d v F r a m, (fun j n => by
    obtain ⟨o, w⟩ := rl.alloc n
    rw [(fre a m).1] at w; cases w), rl.free0 (fre a m).1⟩
/-- P.append(e) -/
def papp_ (i : Nat) (tp : TPD) (ta : TED) : TSD := fun E env => tp env fun put d => ∃ xs, d = .lst true xs ∧ xs.length < sizeLine ∧ ta env fun x => E.nx (env.set i (some (put (.lst true (xs ++ [x])))))
theorem vs_papp (h : PE X a (tBM X.K "list" rAppend (tOfPa X.K cs i tp) (tCons (tOfT X.K cs ta) tNil))) (hs : swapsWith a none pos.line X.env = pure false := by rfl) : VS X cs L (.Expr a pos) (papp_ i tp ta) :=
  ⟨fun e hl => ps_weak (ps_expr h hs) fun D σ H ⟨env, Z, Fs, E, rl, q, ok⟩ => ⟨e, env, Z, Fs, rl, _, q, fun u H1 Z1 put d0 d v x1 hσ hd fo ⟨xs, ex, hz, q⟩ => by
    subst ex
    have rl1 := rl.ext x1
    obtain ⟨p, vs, rfl, t, hl1, _⟩ := rl1.foc_lstw hd hσ fo
    refine ⟨.inl ⟨rfl, vs, SqL.of t⟩, e, env, Z1, Fs, rl1, _, q, fun w H2 Z2 dx F x2 rw' nd fre z => ⟨p, vs, w, rfl, rfl, x2.same.at t, by rw [hl1]; exact hz, ?_⟩⟩
    have rl2 := rl1.ext x2
    obtain ⟨p2, vs2, e2, t2, hl2, up⟩ := rl2.foc_lstw hd hσ (fo.ext x2)
    cases e2
    rw [x2.same.at t] at t2; cases t2
    obtain ⟨Fs', r'⟩ := up (xs ++ [dx]) (vs ++ [w]) F (rl1.newto rw' fre) fun F' r nd' dj => ⟨F' ++ F, RL.app r (RL.one rw'), List.nodup_append.mpr ⟨nd', nd, fun a m b n e => by subst e; exact dj a m n⟩, fun a m => List.mem_append.mp m⟩
    exact ok.nx σ _ Z2 _ Fs' r' z⟩⟩
theorem RL.setw {K : PySem.W.Frag} {H : Hp} {Z : Addr → Prop} {x : D} {w : V} {Fx : List Addr} (rx : R K cs H Z x w Fx) (ndx : Fx.Nodup) : ∀ {xs : List D} {vs : List V} {F : List Addr} (j : Nat), RL K cs H Z xs vs F → F.Nodup → (∀ a ∈ F, a ∉ Fx) → ∃ F'', RL K cs H Z (xs.set j x) (vs.set j w) F'' ∧ F''.Nodup ∧ ∀ a ∈ F'', a ∈ F ∨ a ∈ Fx
  | [], vs, F, j, r, nd, _ => ⟨[], by rw [r.1]; exact ⟨rfl, rfl⟩, List.nodup_nil, fun a m => by cases m⟩
  | y :: ys, vs, F, 0, r, nd, dj => by
    obtain ⟨v, vs', F1, F2, rfl, r1, r2, rfl⟩ := r
    have n := List.nodup_append.mp nd
    exact ⟨Fx ++ F2, ⟨w, vs', Fx, F2, rfl, rx, r2, rfl⟩, List.nodup_append.mpr ⟨ndx, n.2.1, fun a m b k e => by subst e; exact dj a (List.mem_append_right _ k) m⟩, fun a m => (List.mem_append.mp m).elim .inr fun m => .inl (List.mem_append_right _ m)⟩
  | y :: ys, vs, F, j + 1, r, nd, dj => by
    obtain ⟨v, vs', F1, F2, rfl, r1, r2, rfl⟩ := r
    have n := List.nodup_append.mp nd
    obtain ⟨G, rg, ndg, hg⟩ := RL.setw rx ndx j r2 n.2.1 fun a m => dj a (List.mem_append_right _ m)
    refine ⟨F1 ++ G, ⟨v, vs'.set j w, F1, G, rfl, r1, rg, rfl⟩, List.nodup_append.mpr ⟨n.1, ndg, fun a m b k e => ?_⟩, fun a m => ?_⟩
    · subst e
      rcases hg a k with k | k
      · exact n.2.2 a m a k rfl
      · exact dj a (List.mem_append_left _ m) k
    · rcases List.mem_append.mp m with m | m
      · exact .inl (List.mem_append_left _ m)
      · exact (hg a m).imp_left (List.mem_append_right _)
/-- P[i] = e -/
def pset_ (i : Nat) (tp : TPD) (tb : TED) (ta : TED) : TSD := fun E env => ta env fun x => tp env fun put d => tb env fun k => ∃ xs, d = .lst true xs ∧ ∃ m, k = .int m ∧ ∃ j, ixN xs.length m = some j ∧ E.nx (env.set i (some (put (.lst true (xs.set j x)))))
theorem vs_pset {o k : Expr} {p1 : Pos} (ha : VT X cs a ta) (ho : VPa X cs i o tp) (hb : VP X cs k tb) (hs : swapsWithSole [.Subscript o k p1] a pos.line X.env = pure false := by rfl) (hw : swappedStores [.Subscript o k p1] a X.env = pure none := by rfl)
    (h1 : (assignEach [.Subscript o k p1] X.env).map (·.2) = [assign (.Subscript o k p1) X.env] := by rfl)
    (h2 : ∀ v, assign (.Subscript o k p1) X.env v = (do
      let ov ← holding [v] (eval o X.env)
      let iv ← holding [v, ov] (eval k X.env)
      standAt p1
      holding [v, ov, iv] (setItem ov iv v)
      release [v, ov, iv] []) := by intro _; rfl) : VS X cs L (.Assign [.Subscript o k p1] a pos) (pset_ i tp tb ta) :=
  ⟨fun e hl => ps_weak (ps_asg ha.run (pg_sub ho.run hb.run set_list h2) hs hw h1) fun D σ H ⟨env, Z, Fs, E, rl, q, ok⟩ => ⟨e, env, Z, Fs, rl, _, q, fun w H1 Z1 dx F x1 rx nd fre q => by
    have rl1 := rl.ext x1
    refine ⟨e, env, Z1, Fs, rl1, _, q, fun u H2 Z2 put d0 d v x2 hσ hd fo q => ?_⟩
    have rl2 := rl1.ext x2
    refine ⟨e, env, Z2, Fs, rl2, _, q, fun kv H3 Z3 dk Fk x3 rk ⟨xs, ex, m, ek, j, hj, q5⟩ => ?_⟩
    subst ex; subst ek
    have rl3 := rl2.ext x3
    obtain ⟨p, vs, rfl, t, hl1, up⟩ := rl3.foc_lstw hd hσ (fo.ext x3)
    have x23 := x2.trans x3
    have nw := rl.newto rx fre
    have nw3 : ∀ a ∈ F, ¬ Z3 a ∧ (∃ o, H3 a = some o) ∧ (∀ j, a ∉ Fs j) ∧ (e.W a ∨ e.H0 a = none) := fun a m => by
      obtain ⟨o, w⟩ := (nw a m).2.1
      refine ⟨fun z => ?_, x23.same.there _ o w, (nw a m).2.2⟩
      rcases x23.new a z with z | ⟨z, _⟩
      · exact (nw a m).1 z
      · rw [z] at w; cases w
    obtain ⟨Fs', r'⟩ := up (xs.set j dx) (vs.set j w) F nw3 fun F' r nd' dj => RL.setw (rx.ext x23) nd j r nd' dj
    exact ⟨p, vs, m, j, rfl, rk.1, t, by rw [hl1]; exact hj, ok.nx σ _ Z3 _ Fs' r' q5⟩⟩⟩
/-- x = P: the part is moved -/
def pmv_ (j i : Nat) (tp : TPD) : TSD := fun E env => tp env fun put d => E.nx ((env.set i (some (put .opq))).set j (some d))
theorem vs_pmv (j : Nat) {x : Str} {pos' : Pos} (hij : j ≠ i := by decide) (ha : VPa X cs i a tp) (hN : X.N.Nodup) (hi : X.N[j]? = some x := by rfl) (hx : Loc X.env.scope x := by first | exact .inl rfl | exact .inr rfl) (hL : j ∉ L := by decide) (hs : swapsWith a (some (.Name x pos')) pos.line X.env = pure false := by rfl)
    (hf : X.fn x = true ∨ X.env.scope.names.lookup x = some .local := by first | exact .inl rfl | exact .inr rfl | assumption) : VS X cs L (.Assign [.Name x pos'] a pos) (pmv_ j i tp) :=
  ⟨fun e hl => ps_weak (ps_set hN hi hx ha.run hs hf) fun D σ H ⟨env, Z, Fs, E, rl, q, ok⟩ => ⟨e, env, Z, Fs, rl, _, q, fun u H1 Z1 put d0 d v x1 hσ hd fo q => by
    have rl1 := rl.ext x1
    obtain ⟨Fe, re, ndE, hm, Fs', r'⟩ : ∃ Fe, R X.K cs H1 Z1 d u Fe ∧ Fe.Nodup ∧ (∀ a ∈ Fe, ¬ Z1 a ∧ (e.W a ∨ e.H0 a = none) ∧ ∀ j, j ≠ i → a ∉ Fs j) ∧ ∃ Fs', Rel X.K cs e H1 Z1 σ (env.set i (some (put .opq))) Fs' ∧ (∀ j, j ≠ i → Fs' j = Fs j) ∧ ∀ a ∈ Fe, a ∉ Fs' i := by
      obtain ⟨F1, Fe, F2, hF, re, up⟩ := fo
      have ndF := rl1.nd i
      rw [hF] at ndF
      have n1 := List.nodup_append.mp ndF
      have n2 := List.nodup_append.mp n1.2.1
      have inF : ∀ a, a ∈ Fe → a ∈ Fs i := fun a m => by rw [hF]; simp only [List.mem_append]; exact .inr (.inl m)
      have rd := up H1 Z1 .opq [] (fun _ z => z) (fun a o h _ _ => h) rfl
      obtain ⟨Fs', r', k1, k2⟩ := rl1.focus hd hσ hF rd (fun _ z => z) (fun _ z => .inl z) (fun _ _ h _ => h) List.nodup_nil (fun a m => by cases m)
      refine ⟨Fe, re, n2.1, fun a m => ⟨rl1.dz i a (inF a m), rl1.own i a (inF a m), fun j ej n => rl1.dj j i a ej n (inF a m)⟩, Fs', r', k1, fun a m n => ?_⟩
      rw [k2] at n
      simp only [List.nil_append, List.mem_append] at n
      rcases n with n | n
      · exact n1.2.2 a n a (List.mem_append_left _ m) rfl
      · exact n2.2.2 a m a n rfl
    obtain ⟨r', k1, k2⟩ := r'
    obtain ⟨Fs2, r2⟩ := r'.sets (i := j) re ndE (fun a m => ⟨(hm a m).1, (hm a m).2.1, fun k ek n => by
      by_cases ei : k = i
      · rw [ei] at n; exact k2 a m n
      · rw [k1 k ei] at n; exact (hm a m).2.2 k ei n⟩) fun p m w => hL (w ▸ hl p m)
    exact ok.nx _ H1 Z1 _ Fs2 r2 q⟩⟩
end
end VL
set_option maxHeartbeats 2000000
namespace VL
open PySem L2 PyProof.Rows
section
variable {K : PySem.W.Frag} {cs : Cs}
/-! ### is None; texts in order; a list or a text again and again -/
def nonD : D → Bool
  | .non => true
  | _ => false
def dIs (neg : Bool) (x y : D) (Q : D → Prop) : Prop := x ≠ .opq ∧ y = .non ∧ Q (.bl (if neg then !nonD x else nonD x))
theorem non_iff {H : Hp} {Z : Addr → Prop} {x : D} {v : V} {F : List Addr} (hx : x ≠ .opq) (r : R K cs H Z x v F) : decide (v = .non) = nonD x := by
  cases x with
  | non => rw [r.1]; rfl
  | bl b => rw [r.1]; rfl
  | int i => rw [r.1]; rfl
  | str s => rw [r.1]; rfl
  | tup xs => obtain ⟨a, vs, rfl, _⟩ := r; rfl
  | lst m xs => obtain ⟨a, vs, F', rfl, _⟩ := R.lstv r; rfl
  | dic m ks xs =>
    cases m with
    | true => obtain ⟨a, vs, F', rfl, _⟩ := r; rfl
    | false => obtain ⟨a, vs, rfl, _⟩ := r; rfl
  | dit m ks xs =>
    cases m with
    | true => obtain ⟨a, vs, F', rfl, _⟩ := r; rfl
    | false => obtain ⟨a, vs, rfl, _⟩ := r; rfl
  | obj m c ns xs => obtain ⟨a, dx, ci, vs, F', rfl, _⟩ := R.objv r; rfl
  | opq => exact absurd rfl hx
theorem od_isn : OD K cs rIsN (dIs false) := by
  intro H Z Q QD x y v w F G za rx ry q k
  obtain ⟨hx, rfl, q⟩ := q
  exact ⟨ry.1, fin_at (d := .bl _) k ⟨rfl, rfl⟩ (by rw [non_iff hx rx]; exact q)⟩
theorem od_notn : OD K cs rNotN (dIs true) := by
  intro H Z Q QD x y v w F G za rx ry q k
  obtain ⟨hx, rfl, q⟩ := q
  exact ⟨ry.1, fin_at (d := .bl _) k ⟨rfl, rfl⟩ (by rw [non_iff hx rx]; exact q)⟩
def dLtS : D → D → (D → Prop) → Prop
  | .str i, .str j, Q => Q (.bl (decide (i.cps.toList < j.cps.toList)))
  | _, _, _ => False
def dLeS : D → D → (D → Prop) → Prop
  | .str i, .str j, Q => Q (.bl (!decide (j.cps.toList < i.cps.toList)))
  | _, _, _ => False
theorem od_lts : OD K cs (fun x y H Q => ∃ i j, x = V.str i ∧ y = V.str j ∧ Q (.bl (decide (i.cps.toList < j.cps.toList))) H) dLtS := by
  intro H Z Q QD x y v w F G za rx ry q k
  cases x <;> cases y <;> first
    | exact False.elim q
    | exact ⟨_, _, rx.1, ry.1, fin_at (d := .bl _) k ⟨rfl, rfl⟩ q⟩
theorem od_les : OD K cs (fun x y H Q => ∃ i j, x = V.str i ∧ y = V.str j ∧ Q (.bl (!decide (j.cps.toList < i.cps.toList))) H) dLeS := by
  intro H Z Q QD x y v w F G za rx ry q k
  cases x <;> cases y <;> first
    | exact False.elim q
    | exact ⟨_, _, rx.1, ry.1, fin_at (d := .bl _) k ⟨rfl, rfl⟩ q⟩
/-- a list by a number -/
def dRep : D → D → (D → Prop) → Prop
  | .lst true xs, .int i, Q => noOwnL xs = true ∧ -(2 ^ 63) ≤ i ∧ i < 2 ^ 63 ∧ xs.length * i.toNat ≤ sizeLine ∧ Q (.lst true (List.replicate i.toNat xs).flatten)
  | _, _, _ => False
theorem RL.rep {H : Hp} {Z : Addr → Prop} {xs : List D} {vs : List V} (r : RL K cs H Z xs vs []) : ∀ k : Nat, RL K cs H Z (List.replicate k xs).flatten (List.replicate k vs).flatten []
  | 0 => ⟨rfl, rfl⟩
  | k + 1 => by
    rw [List.replicate_succ, List.replicate_succ, List.flatten_cons, List.flatten_cons]
    exact RL.app0 r (RL.rep r k)
theorem od_rep : OD K cs rRep dRep := by
  intro H Z Q QD x y v w F G za rx ry q k
  cases x with
  | lst m xs =>
    cases m with
    | false => cases y <;> exact False.elim q
    | true =>
      cases y with
      | int i =>
        obtain ⟨n, h1, h2, h3, q⟩ := q
        obtain ⟨a, vs, F', rfl, t, r, _⟩ := rx
        have r0 := RL.noF0 r n
        exact ⟨a, i, vs, rfl, ry.1, t, h1, h2, by rw [r.len]; exact h3, fun p hp => fin_lst za k hp (RL.rep r0 _) q⟩
      | _ => exact False.elim q
  | _ => cases y <;> exact False.elim q
end
section
variable {X : Cx} {cs : Cs} {tg a : Expr} {pos : Pos} {ta : TED}
/-- reversed -/
def rev_ (ta : TED) : TAD := fun env Q => ta env fun d => match d with
  | .lst _ xs => Q (frzL xs).reverse
  | .tup xs => Q (frzL xs).reverse
  | _ => False
theorem vi_rev {p : Pos} (hg : Gl X "reversed") (hm : X.mg "reversed" = none) (ha : VT X cs a ta) (hs : starEach [a] X.env = (false, eval a X.env) :: starEach [] X.env := by rfl) : VI X cs tg (.Call (.Name "reversed" p) [a] [] pos) (rev_ ta) := by
  refine ⟨pi_weak (RT.pi_revA hg hm ha.run hs) fun σ H Rr ⟨e, env, Z, Fs, rl, QD, q, k⟩ => ⟨e, env, Z, Fs, rl, _, q, fun v H1 Z1 d F ex r nd fre z => ?_⟩⟩
  have al := R.alloc d v F r
  have ex2 := Ext.frz rl ex al fre
  have rf : R X.K cs H1 (fun a => Z1 a ∨ a ∈ F) (frz d) v [] := R.fr (fun _ h => .inl h) d v F (fun _ m => .inr m) r
  cases d with
  | lst m xs =>
    obtain ⟨p, vs, F', rfl, t, rr, _⟩ := R.lstv rf
    have lv : vs.length = xs.length := by rw [rr.len, frzL_map, List.length_map]
    have lf : (frzL xs).length = xs.length := by rw [frzL_map, List.length_map]
    refine ⟨p, vs, rfl, .inl ⟨t, k _ H1 _ [(frz (.lst m xs), .ref p)] (frzL xs).reverse ex2 (fun q mq => ?_) (itok_src (vs := vs) (G := fun H => ∃ ys, ys.length = xs.length ∧ SqL X.K H p ys) (Y := fun i H x H' => i < xs.length ∧ H' = H ∧ ∀ ys, SqL X.K H p ys → ys[xs.length - 1 - i]? = some x) ?_ fun H Z q => ?_) z⟩⟩
    · have e : q = (frz (.lst m xs), .ref p) := by simpa using mq
      rw [e]; exact rf
    · rw [List.length_reverse, lf, lv]
      refine ⟨fun i H hi ⟨ys, l, q⟩ => ⟨hi, ys, ys[xs.length - 1 - i]'(by omega), q, by simp [show xs.length - 1 - i < ys.length by omega]⟩, fun H _ => Nat.le_refl _, fun i H x H' hi ⟨ys, l, q⟩ y => ⟨hi, y.1, y.2⟩⟩
    · obtain ⟨p', ws, F'', e', t', r', _⟩ := R.lstv q
      cases e'
      have l' : ws.length = xs.length := by rw [r'.len, frzL_map, List.length_map]
      refine ⟨⟨ws, l', t'⟩, fun i H' x ⟨hlt, e1, h3⟩ => ⟨e1, ?_⟩⟩
      have hx := h3 ws t'
      have hi : xs.length - 1 - i < (frzL xs).length := by rw [lf]; omega
      have n0 : RL X.K cs H Z (frzL xs) ws [] := RL.noF0 r' (frzL_noOwn xs)
      refine ⟨(frzL xs)[xs.length - 1 - i], ?_, RL.get0 n0 (by simp [hi]) hx⟩
      rw [List.getElem?_reverse (by rw [lf]; exact hlt), lf]
      simp [hi]
  | tup xs =>
    obtain ⟨p, vs, rfl, t, rr⟩ := R.tupv rf
    have lv : vs.length = xs.length := by rw [rr.len, frzL_map, List.length_map]
    have lf : (frzL xs).length = xs.length := by rw [frzL_map, List.length_map]
    refine ⟨p, vs, rfl, .inr ⟨t, k _ H1 _ [(frz (.tup xs), .ref p)] (frzL xs).reverse ex2 (fun q mq => ?_) (itok_src (vs := vs) (G := fun H => ∃ ys, ys.length = xs.length ∧ SqT X.K H p ys) (Y := fun i H x H' => i < xs.length ∧ H' = H ∧ ∀ ys, SqT X.K H p ys → ys[xs.length - 1 - i]? = some x) ?_ fun H Z q => ?_) z⟩⟩
    · have e : q = (frz (.tup xs), .ref p) := by simpa using mq
      rw [e]; exact rf
    · rw [List.length_reverse, lf, lv]
      refine ⟨fun i H hi ⟨ys, l, q⟩ => ⟨hi, ys, ys[xs.length - 1 - i]'(by omega), q, by simp [show xs.length - 1 - i < ys.length by omega]⟩, fun H _ => Nat.le_refl _, fun i H x H' hi ⟨ys, l, q⟩ y => ⟨hi, y.1, y.2⟩⟩
    · obtain ⟨p', ws, e', t', r'⟩ := R.tupv q
      cases e'
      have l' : ws.length = xs.length := by rw [r'.len, frzL_map, List.length_map]
      refine ⟨⟨ws, l', t'⟩, fun i H' x ⟨hlt, e1, h3⟩ => ⟨e1, ?_⟩⟩
      have hx := h3 ws t'
      have hi : xs.length - 1 - i < (frzL xs).length := by rw [lf]; omega
      have n0 : RL X.K cs H Z (frzL xs) ws [] := RL.noF0 r' (frzL_noOwn xs)
      refine ⟨(frzL xs)[xs.length - 1 - i], ?_, RL.get0 n0 (by simp [hi]) hx⟩
      rw [List.getElem?_reverse (by rw [lf]; exact hlt), lf]
      simp [hi]
  | _ => exact False.elim z
end
/-! ### lemmas for the proofs over data -/
theorem ixN_nat {n j : Nat} (h : j < n) : ixN n (j : Int) = some j := by
  unfold ixN
  rw [if_pos (by omega), if_pos (by omega)]; simp
theorem ixN_int {n : Nat} {j : Int} (h0 : 0 ≤ j) (h : j < n) : ixN n j = some j.toNat := by
  unfold ixN
  rw [if_pos h0, if_pos h]
theorem ixN_0 {n : Nat} : ixN (n + 1) 0 = some 0 := ixN_nat (j := 0) (by omega)
theorem ixN_1 {n : Nat} : ixN (n + 2) 1 = some 1 := ixN_nat (j := 1) (by omega)
theorem ixN_2 {n : Nat} : ixN (n + 3) 2 = some 2 := ixN_nat (j := 2) (by omega)
theorem ixN_3 {n : Nat} : ixN (n + 4) 3 = some 3 := ixN_nat (j := 3) (by omega)
theorem lc_rng1 {i : Nat} {u : TAD} {te : TED} {env : Env} {Q : D → Prop} {j : Int} (hu : ∀ Q : List D → Prop, Q [.int j] → u env Q) (h1 : -(2 ^ 62) ≤ j) (h2 : j ≤ 16777216) (g : Nat → D)
    (h : ∀ k : Nat, (k : Int) < j → te (env.set i (some (.int k))) fun y => y = g k) (q : Q (.lst true ((List.range j.toNat).map g))) : lc_ i (rng1_ u) yes_ te env Q := by
  refine hu _ ⟨h1, by omega, ?_⟩
  have e : rngD 0 j.toNat = (List.range j.toNat).map fun k : Nat => D.int k := by
    unfold rngD
    exact List.map_congr_left fun k _ => by rw [Int.zero_add]
  rw [e]
  refine lc_map (List.range j.toNat) (fun k : Nat => D.int k) (fun _ => true) g (fun a b h => by injection h with h; omega) (fun n m => rfl) (fun n m _ => h n (by rw [List.mem_range] at m; omega)) (by rw [size_line, List.length_range]; omega) ?_
  rw [List.filter_eq_self.mpr (fun _ _ => rfl)]
  exact q
theorem lc_rng1p {i : Nat} {u : TAD} {tt : TTD} {te : TED} {env : Env} {Q : D → Prop} {j : Int} (hu : ∀ Q : List D → Prop, Q [.int j] → u env Q) (h1 : -(2 ^ 62) ≤ j) (h2 : j ≤ 16777216) (p : Nat → Bool) (g : Nat → D)
    (ht : ∀ k : Nat, (k : Int) < j → tt (env.set i (some (.int k))) fun b => b = p k) (h : ∀ k : Nat, (k : Int) < j → p k = true → te (env.set i (some (.int k))) fun y => y = g k) (q : Q (.lst true (((List.range j.toNat).filter p).map g))) : lc_ i (rng1_ u) tt te env Q := by
  refine hu _ ⟨h1, by omega, ?_⟩
  have e : rngD 0 j.toNat = (List.range j.toNat).map fun k : Nat => D.int k := by
    unfold rngD
    exact List.map_congr_left fun k _ => by rw [Int.zero_add]
  rw [e]
  exact lc_map (List.range j.toNat) (fun k : Nat => D.int k) p g (fun a b h => by injection h with h; omega) (fun n m => ht n (by rw [List.mem_range] at m; omega)) (fun n m hp => h n (by rw [List.mem_range] at m; omega) hp) (by rw [size_line, List.length_range]; omega) q
theorem ix_str {z : Str} {k : Int} {P : Nat → Prop} (hz : z.length ≤ 16777216) (h0 : 0 ≤ k) (h1 : k < z.length) (q : P (z.cps.toList.getD k.toNat 0)) : z.length ≤ 16777216 ∧ ∃ c, atI z.cps.toList k = some c ∧ P c :=
  ⟨hz, _, atI_pos h0 (by rw [Array.length_toList]; exact h1) 0, q⟩
theorem isT_id (m : Bool) (ks : List Key) (vs : List D) : isT .int (.dic m ks vs) = false := rfl
theorem isT_ie (m : Bool) (ks : List (List Key)) (vs : List D) : isT .int (.dit m ks vs) = false := rfl
theorem isT_bs (s : Str) : isT .bool (.str s) = false := rfl
theorem isT_bl (m : Bool) (xs : List D) : isT .bool (.lst m xs) = false := rfl
theorem isT_bt (xs : List D) : isT .bool (.tup xs) = false := rfl
theorem isT_bn  : isT .bool .non = false := rfl
theorem isT_bd (m : Bool) (ks : List Key) (vs : List D) : isT .bool (.dic m ks vs) = false := rfl
theorem isT_be (m : Bool) (ks : List (List Key)) (vs : List D) : isT .bool (.dit m ks vs) = false := rfl
theorem isT_si (i : Int) : isT .str (.int i) = false := rfl
theorem isT_sb (b : Bool) : isT .str (.bl b) = false := rfl
theorem isT_sl (m : Bool) (xs : List D) : isT .str (.lst m xs) = false := rfl
theorem isT_st (xs : List D) : isT .str (.tup xs) = false := rfl
theorem isT_sn  : isT .str .non = false := rfl
theorem isT_sd (m : Bool) (ks : List Key) (vs : List D) : isT .str (.dic m ks vs) = false := rfl
theorem isT_se (m : Bool) (ks : List (List Key)) (vs : List D) : isT .str (.dit m ks vs) = false := rfl
theorem isT_lb (b : Bool) : isT .list (.bl b) = false := rfl
theorem isT_ls (s : Str) : isT .list (.str s) = false := rfl
theorem isT_ld (m : Bool) (ks : List Key) (vs : List D) : isT .list (.dic m ks vs) = false := rfl
theorem isT_le (m : Bool) (ks : List (List Key)) (vs : List D) : isT .list (.dit m ks vs) = false := rfl
theorem isT_ti (i : Int) : isT .tuple (.int i) = false := rfl
theorem isT_tb (b : Bool) : isT .tuple (.bl b) = false := rfl
theorem isT_ts (s : Str) : isT .tuple (.str s) = false := rfl
theorem isT_td (m : Bool) (ks : List Key) (vs : List D) : isT .tuple (.dic m ks vs) = false := rfl
theorem isT_te (m : Bool) (ks : List (List Key)) (vs : List D) : isT .tuple (.dit m ks vs) = false := rfl
theorem isT_di (i : Int) : isT .dict (.int i) = false := rfl
theorem isT_db (b : Bool) : isT .dict (.bl b) = false := rfl
theorem isT_ds (s : Str) : isT .dict (.str s) = false := rfl
theorem isT_dl (m : Bool) (xs : List D) : isT .dict (.lst m xs) = false := rfl
theorem isT_dt (xs : List D) : isT .dict (.tup xs) = false := rfl
theorem isT_dn  : isT .dict .non = false := rfl
theorem isT_dd (m : Bool) (ks : List Key) (vs : List D) : isT .dict (.dic m ks vs) = true := rfl
theorem isT_de (m : Bool) (ks : List (List Key)) (vs : List D) : isT .dict (.dit m ks vs) = true := rfl
theorem plain_d (m : Bool) (ks : List Key) (vs : List D) : plainD (.dic m ks vs) = true := rfl
theorem plain_e (m : Bool) (ks : List (List Key)) (vs : List D) : plainD (.dit m ks vs) = true := rfl
/-- over a list of data; the invariant by the part that is done -/
theorem for_pre {α : Type} {i : Nat} {ti : TAD} {tb : TSD} {E : EndsD} {env : Env} (f : α → D) {xs : List α} (hu : ∀ Q : List D → Prop, Q (xs.map f) → ti env Q) (Pv : List α → Env → Prop) (h0 : Pv [] env)
    (hs : ∀ pre x post env', xs = pre ++ x :: post → Pv pre env' → tb { nx := Pv (pre ++ [x]), ct := Pv (pre ++ [x]), bk := E.nx, rt := E.rt } (env'.set i (some (f x)))) (hd : ∀ env', Pv xs env' → E.nx env') : for_ i ti tb E env := by
  refine for_map f hu (fun k env' => Pv (xs.take k) env') (by simpa using h0) (fun k x env' h pv => ?_) fun env' pv => hd env' (by rwa [List.take_length] at pv)
  have hk := (List.getElem?_eq_some_iff.mp h).1
  have e : xs = xs.take k ++ x :: xs.drop (k + 1) := by
    have hx : xs[k] = x := by
      have := List.getElem?_eq_getElem hk
      rw [h] at this
      exact (Option.some.inj this).symm
    rw [← hx, List.getElem_cons_drop, List.take_append_drop]
  have := hs (xs.take k) x (xs.drop (k + 1)) env' e pv
  have e2 : xs.take (k + 1) = xs.take k ++ [x] := by rw [List.take_add_one, h]; rfl
  rw [e2]
  exact this
end VL
set_option maxHeartbeats 2000000
namespace VL
open PySem L2 PyProof.Rows
/-! ### defs that change what they are handed -/
section
variable {K : PySem.W.Frag} {cs : Cs} {H H' : Hp} {Z Z' : Addr → Prop}
theorem RL.parts : ∀ {ds : List D} {vs : List V} {F : List Addr}, RL K cs H Z ds vs F → ∃ Fs : Nat → List Addr, F = (List.range ds.length).flatMap Fs ∧ ∀ (i : Nat) d v, ds[i]? = some d → vs[i]? = some v → R K cs H Z d v (Fs i)
  | [], vs, F, r => ⟨fun _ => [], by rw [r.2]; rfl, fun i d v h => by simp at h⟩
  | x :: xs, vs, F, r => by
    obtain ⟨v, vs', F1, F2, rfl, r1, r2, rfl⟩ := r
    obtain ⟨Fs, rfl, h⟩ := RL.parts r2
    refine ⟨fun i => match i with | 0 => F1 | i + 1 => Fs i, ?_, fun i d w h1 h2 => ?_⟩
    · rw [List.length_cons, List.range_succ_eq_map, List.flatMap_cons, List.flatMap_map]
    · cases i with
      | zero => simp at h1 h2; subst h1; subst h2; exact r1
      | succ i => exact h i d w (by simpa using h1) (by simpa using h2)
theorem RL.of_parts : ∀ {ds : List D} {vs : List V} {G : Nat → List Addr}, ds.length = vs.length → (∀ (i : Nat) d v, ds[i]? = some d → vs[i]? = some v → R K cs H Z d v (G i)) → RL K cs H Z ds vs ((List.range ds.length).flatMap G)
  | [], [], G, _, _ => ⟨rfl, rfl⟩
  | x :: xs, [], G, l, _ => by simp at l
  | [], y :: ys, G, l, _ => by simp at l
  | x :: xs, y :: ys, G, l, h => by
    refine ⟨y, ys, G 0, _, rfl, h 0 x y rfl rfl, RL.of_parts (G := fun i => G (i + 1)) (by simpa using l) fun i d v h1 h2 => h (i + 1) d v (by simpa using h1) (by simpa using h2), ?_⟩
    rw [List.length_cons, List.range_succ_eq_map, List.flatMap_cons, List.flatMap_map]
theorem nodup_fm {α β : Type} {f : α → List β} : ∀ {l : List α}, l.Nodup → (l.flatMap f).Nodup → (∀ i ∈ l, (f i).Nodup) ∧ ∀ i ∈ l, ∀ j ∈ l, i ≠ j → ∀ a ∈ f i, a ∉ f j
  | [], _, _ => ⟨fun i m => (by cases m), fun i m => (by cases m)⟩
  | x :: xs, hl, h => by
    rw [List.flatMap_cons] at h
    obtain ⟨h1, h2, h3⟩ := List.nodup_append.mp h
    obtain ⟨k1, k2⟩ := nodup_fm (List.nodup_cons.mp hl).2 h2
    refine ⟨fun i m => ?_, fun i mi j mj ne a ma mb => ?_⟩
    · rcases List.mem_cons.mp m with rfl | m
      · exact h1
      · exact k1 i m
    · rcases List.mem_cons.mp mi with e1 | mi'
      · rcases List.mem_cons.mp mj with e2 | mj'
        · exact ne (e1.trans e2.symm)
        · subst e1
          exact h3 a ma a (List.mem_flatMap.mpr ⟨j, mj', mb⟩) rfl
      · rcases List.mem_cons.mp mj with e2 | mj'
        · subst e2
          exact h3 a mb a (List.mem_flatMap.mpr ⟨i, mi', ma⟩) rfl
        · exact k2 i mi' j mj' ne a ma mb
theorem fm_nodup {α β : Type} {f : α → List β} : ∀ {l : List α}, l.Nodup → (∀ i ∈ l, (f i).Nodup) → (∀ i ∈ l, ∀ j ∈ l, i ≠ j → ∀ a ∈ f i, a ∉ f j) → (l.flatMap f).Nodup
  | [], _, _, _ => List.nodup_nil
  | x :: xs, hl, h1, h2 => by
    rw [List.flatMap_cons]
    have hx := List.nodup_cons.mp hl
    refine List.nodup_append.mpr ⟨h1 x List.mem_cons_self, fm_nodup hx.2 (fun i m => h1 i (List.mem_cons_of_mem _ m)) fun i mi j mj => h2 i (List.mem_cons_of_mem _ mi) j (List.mem_cons_of_mem _ mj), fun a m b n e => ?_⟩
    subst e
    obtain ⟨j, mj, n⟩ := List.mem_flatMap.mp n
    exact h2 x List.mem_cons_self j (List.mem_cons_of_mem _ mj) (fun e => hx.1 (e ▸ mj)) a m n
end
abbrev SpM := List D → (D → List D → Prop) → Prop
/-- the promise of a def that changes its arguments at the places io -/
def spOfM (K : PySem.W.Frag) (cs : Cs) (io : List Nat) (s : SpM) : Sp := fun vs H Q _ => LamX.Tabs cs.tb H ∧ ∃ Z ds F, (∀ a, Z a → ∃ o, H a = some o) ∧ RL K cs H Z ds vs F ∧ F.Nodup ∧ (∀ a ∈ F, ¬ Z a) ∧ (∀ (i : Nat) d, ds[i]? = some d → i ∉ io → noOwn d = true) ∧ ∃ QD, s ds QD ∧
  ∀ v H' Z' r ds' Fr F', (∀ a, Z a → Z' a) → (∀ a, Z' a → Z a ∨ a ∈ F ∨ H a = none) → (∀ a, Z' a → ∃ o, H' a = some o) → (∀ a o, H a = some o → NT o → a ∉ F → H' a = some o) → (∀ a o, H a = some o → a ∉ F → ∃ o', H' a = some o') → LamX.Tabs cs.tb H' → RL K cs H' Z' ds' vs F' → R K cs H' Z' r v Fr → (F' ++ Fr).Nodup → (∀ a ∈ F' ++ Fr, ¬ Z' a ∧ (a ∈ F ∨ H a = none)) → QD r ds' → Q v H'
/-- the arguments behind -/
def backD (io : List Nat) (env : Env) : Nat → List D → Option (List D)
  | _, [] => some []
  | i, d :: ds => if i ∈ io then (match env[i]? with
    | some (some d') => (backD io env (i + 1) ds).map (d' :: ·)
    | _ => none) else (backD io env (i + 1) ds).map (d :: ·)
theorem backD_get {io : List Nat} {env : Env} : ∀ {ds ds' : List D} {k : Nat}, backD io env k ds = some ds' → ds'.length = ds.length ∧ ∀ (i : Nat) d, ds'[i]? = some d → (k + i ∈ io ∧ env[k + i]? = some (some d)) ∨ (k + i ∉ io ∧ ds[i]? = some d)
  | [], ds', k, h => by
    have h : some [] = some ds' := h
    cases h
    exact ⟨rfl, fun i d h => by simp at h⟩
  | x :: xs, ds', k, h => by
    unfold backD at h
    split at h
    · rename_i hk
      split at h
      · rename_i y hy
        cases e : backD io env (k + 1) xs with
        | none => rw [e] at h; cases h
        | some t =>
          rw [e] at h; cases h
          obtain ⟨h1, h2⟩ := backD_get e
          refine ⟨by simp [h1], fun i d hd => ?_⟩
          cases i with
          | zero => simp at hd; subst hd; exact .inl ⟨by simpa using hk, by simpa using hy⟩
          | succ i =>
            have := h2 i d (by simpa using hd)
            rw [show k + 1 + i = k + (i + 1) by omega] at this
            simpa using this
      · cases h
    · rename_i hk
      cases e : backD io env (k + 1) xs with
      | none => rw [e] at h; cases h
      | some t =>
        rw [e] at h; cases h
        obtain ⟨h1, h2⟩ := backD_get e
        refine ⟨by simp [h1], fun i d hd => ?_⟩
        cases i with
        | zero => simp at hd; subst hd; exact .inr ⟨by simpa using hk, rfl⟩
        | succ i =>
          have := h2 i d (by simpa using hd)
          rw [show k + 1 + i = k + (i + 1) by omega] at this
          simpa using this
section
variable {X : Cx} {cs : Cs}
theorem start_get {N : List Str} {vs : List V} {i : Nat} {v : V} (h : vs[i]? = some v) : (L2.start N vs)[i]? = some (some v) := by
  unfold L2.start
  have hi := (List.getElem?_eq_some_iff.mp h).1
  rw [List.getElem?_append_left (by simpa using hi), List.getElem?_map, h]; rfl
theorem env0_get {n : Nat} {ds : List D} {i : Nat} {d : D} (h : (env0 n ds)[i]? = some (some d)) : ds[i]? = some d := by
  unfold env0 at h
  by_cases hi : i < ds.length
  · rw [List.getElem?_append_left (by simpa using hi), List.getElem?_map] at h
    cases e : ds[i]? with
    | none => rw [e] at h; cases h
    | some x => rw [e] at h; cases h; rfl
  · rw [List.getElem?_append_right (by simpa using hi), List.getElem?_replicate] at h
    split at h <;> cases h
theorem fn_io {P : Program} {w : World} {K : PySem.W.Frag} {mg : Str → Option Value} {base : Heap} {x qual : Str} {st : Stmt} {f : Addr} {fd : FuncData} {N ps : List Str} {k : Nat} {s : SpM} {t : TSD} (io : List Nat) (F : Fun K x qual st f fd) (S : FnScope N ps (defScope st))
    (len : ∀ ds Q, s ds Q → ds.length = ps.length)
    (body : ∀ (cdv : Value) (A : Around) (outer : List PySem.Env) (s : Shared) (H : Hp) (E : XK), Room k (A.deeper (envOfC qual (defScope st) s.heap.objs.size f cdv)) → VSs (cxOf CX0 P w K mg base N qual (defScope st) f cdv A outer s H E).nox cs io (defBody st) t)
    (law : ∀ ds Q, s ds Q → t { nx := fun env => ∃ ds', backD io env 0 ds = some ds' ∧ Q .non ds', rt := fun d env => ∃ ds', backD io env 0 ds = some ds' ∧ Q d ds' } (env0 N.length ds)) : FnOk P w K mg base CX0 (k + 1) f fd ps (spOfM K cs io s) := by
  refine F.ok S (fun vs H Q E ⟨_, Z, ds, F, za, r, _, _, _, QD, h, _⟩ => ?_) fun cdv A outer sh H vs Q E hr ⟨tb, Z, ds, F, za, r, nd, nz, no, QD, h, fin⟩ => ?_
  · rw [r.len]; exact len ds QD h
  · obtain ⟨Fs, hF, hR⟩ := RL.parts r
    have lv := r.len
    have rngnd : (List.range ds.length).Nodup := List.nodup_range
    rw [hF] at nd
    obtain ⟨nd1, nd2⟩ := nodup_fm rngnd nd
    have inF : ∀ i a, i < ds.length → a ∈ Fs i → a ∈ F := fun i a hi m => by rw [hF]; exact List.mem_flatMap.mpr ⟨i, List.mem_range.mpr hi, m⟩
    let G : Nat → List Addr := fun i => if i < ds.length then Fs i else []
    have hG : ∀ i a, a ∈ G i → i < ds.length ∧ a ∈ Fs i := fun i a m => by
      have m : a ∈ (if i < ds.length then Fs i else []) := m
      split at m
      · exact ⟨by assumption, m⟩
      · cases m
    have vget : ∀ i d, ds[i]? = some d → ∃ v, vs[i]? = some v := fun i d hd => by
      have hi := (List.getElem?_eq_some_iff.mp hd).1
      exact ⟨vs[i]'(by omega), List.getElem?_eq_getElem _⟩
    have noF : ∀ i d v, ds[i]? = some d → vs[i]? = some v → i ∉ io → R K cs H Z d v [] := fun i d v h1 h2 h3 => by
      have := hR i d v h1 h2
      rw [R.noF d v _ (no i d h1 h3) this] at this
      exact this
    let ioL : List (Nat × V) := (List.range ds.length).filterMap fun i => if i ∈ io then vs[i]?.map fun v => (i, v) else none
    let gsL : List (D × V) := (List.range ds.length).filterMap fun i => if i ∈ io then none else match ds[i]?, vs[i]? with
      | some d, some v => some (d, v)
      | _, _ => none
    have hio : ∀ p ∈ ioL, p.1 ∈ io ∧ vs[p.1]? = some p.2 := fun p m => by
      obtain ⟨i, _, e⟩ := List.mem_filterMap.mp m
      split at e
      · cases q : vs[i]? with
        | none => rw [q] at e; cases e
        | some v => rw [q] at e; cases e; exact ⟨by assumption, q⟩
      · cases e
    have mio : ∀ i v, i ∈ io → vs[i]? = some v → (i, v) ∈ ioL := fun i v h1 h2 => by
      have hi := (List.getElem?_eq_some_iff.mp h2).1
      exact List.mem_filterMap.mpr ⟨i, List.mem_range.mpr (by omega), by rw [if_pos h1, h2]; rfl⟩
    have hgs : ∀ p ∈ gsL, ∃ i, i ∉ io ∧ ds[i]? = some p.1 ∧ vs[i]? = some p.2 := fun p m => by
      obtain ⟨i, _, e⟩ := List.mem_filterMap.mp m
      split at e
      · cases e
      · rename_i hn
        split at e
        · rename_i d v h1 h2
          cases e; exact ⟨i, hn, h1, h2⟩
        · cases e
    have mgs : ∀ i d v, i ∉ io → ds[i]? = some d → vs[i]? = some v → (d, v) ∈ gsL := fun i d v h1 h2 h3 => by
      have hi := (List.getElem?_eq_some_iff.mp h2).1
      exact List.mem_filterMap.mpr ⟨i, List.mem_range.mpr hi, by rw [if_neg h1, h2, h3]⟩
    have rl0 : Rel K cs ⟨H, Z, fun a => a ∈ F, ioL, gsL⟩ H Z (L2.start N vs) (env0 N.length ds) G := by
      refine ⟨fun i d hd => ?_, fun i hn => ?_, fun i => ?_, fun i j a ij m => ?_, fun i a m => ?_, za, fun i a m => ?_, fun a o h _ _ => h, fun a o h => .inr ⟨o, h⟩, tb, fun a z => z, fun a z => Or.inl z, fun p m => ?_, fun p m => ?_, ?_⟩
      · have hd := env0_get hd
        obtain ⟨v, hv⟩ := vget i d hd
        refine ⟨v, start_get hv, ?_⟩
        have hi := (List.getElem?_eq_some_iff.mp hd).1
        show R K cs H Z d v (if i < ds.length then Fs i else [])
        rw [if_pos hi]
        exact hR i d v hd hv
      · show (if i < ds.length then Fs i else []) = []
        by_cases hi : i < ds.length
        · refine absurd ?_ (hn ds[i])
          unfold env0
          rw [List.getElem?_append_left (by simpa using hi), List.getElem?_map, List.getElem?_eq_getElem hi]; rfl
        · rw [if_neg hi]
      · show (if i < ds.length then Fs i else []).Nodup
        split
        · exact nd1 i (List.mem_range.mpr (by assumption))
        · exact List.nodup_nil
      · obtain ⟨hi, m⟩ := hG i a m
        intro n
        obtain ⟨hj, n⟩ := hG j a n
        exact nd2 i (List.mem_range.mpr hi) j (List.mem_range.mpr hj) ij a m n
      · obtain ⟨hi, m⟩ := hG i a m
        exact nz a (inF i a hi m)
      · obtain ⟨hi, m⟩ := hG i a m
        exact .inl (inF i a hi m)
      · exact start_get (hio p m).2
      · obtain ⟨i, h1, h2, h3⟩ := hgs p m
        exact noF i p.1 p.2 h2 h3 h1
      · unfold L2.start env0
        simp [lv]
    have out : ∀ (v : V) (σ : L2.St) (H' : Hp) (Z' : Addr → Prop) (env : Env) (Fs' : Nat → List Addr) (d : D) (Fd : List Addr), Rel K cs ⟨H, Z, fun a => a ∈ F, ioL, gsL⟩ H' Z' σ env Fs' → R K cs H' Z' d v Fd → Fd.Nodup → (∀ a ∈ Fd, ¬ Z' a ∧ (a ∈ F ∨ H a = none) ∧ ∀ i, a ∉ Fs' i) →
        (∃ ds', backD io env 0 ds = some ds' ∧ QD d ds') → Q v H' := by
      intro v σ H' Z' env Fs' d Fd rl rd ndd hFd ⟨ds', hb, q⟩
      obtain ⟨bl, bg⟩ := backD_get hb
      have RLd : RL K cs H' Z' ds' vs ((List.range ds'.length).flatMap fun i => if i ∈ io then Fs' i else []) := RL.of_parts (by rw [bl, lv]) fun i d v h1 h2 => by
        rcases bg i d h1 with ⟨h3, h4⟩ | ⟨h3, h4⟩
        · rw [Nat.zero_add] at h3 h4
          rw [if_pos h3]
          obtain ⟨u, g1, g2⟩ := rl.slot i d h4
          have := rl.io (i, v) (mio i v h3 h2)
          rw [g1] at this
          cases this
          exact g2
        · rw [Nat.zero_add] at h3
          rw [if_neg h3]
          exact rl.gs (d, v) (mgs i d v h3 h4 h2)
      have mF' : ∀ a, a ∈ ((List.range ds'.length).flatMap fun i => if i ∈ io then Fs' i else []) → ∃ i, a ∈ Fs' i := fun a m => by
        obtain ⟨i, _, m⟩ := List.mem_flatMap.mp m
        split at m
        · exact ⟨i, m⟩
        · cases m
      refine fin v H' Z' d ds' Fd _ rl.z0 (fun a z => (rl.z1 a z).imp_right fun w => w.elim .inr .inl) rl.za (fun a o h nt n => rl.fr a o h nt n) (fun a o h n => (rl.th a o h).elim (fun w => absurd w n) id) rl.tb RLd rd (List.nodup_append.mpr ⟨fm_nodup List.nodup_range (fun i _ => ?_) (fun i _ j _ ij a m n => ?_), ndd, fun a m b n e => ?_⟩) (fun a m => ?_) q
      · split
        · exact rl.nd i
        · exact List.nodup_nil
      · split at m
        · split at n
          · exact rl.dj i j a ij m n
          · cases n
        · cases m
      · subst e
        obtain ⟨i, m⟩ := mF' a m
        exact (hFd a n).2.2 i m
      · rcases List.mem_append.mp m with m | m
        · obtain ⟨i, m⟩ := mF' a m
          exact ⟨rl.dz i a m, rl.own i a m⟩
        · exact ⟨(hFd a m).1, (hFd a m).2.1⟩
    refine ⟨_, (body cdv A outer sh H E hr).run ⟨H, Z, fun a => a ∈ F, ioL, gsL⟩ (fun p m => (hio p m).1), env0 N.length ds, Z, G, _, rl0, law ds QD h, fun σ H' Z' env Fs rl q => ?_, fun _ _ _ _ _ _ q => q, fun _ _ _ _ _ _ q => q, fun v σ H' Z' env Fs d Fd rl rd nd hF q => ?_⟩
    · exact out .non σ H' Z' env Fs .non [] rl ⟨rfl, rfl⟩ List.nodup_nil (fun a m => by cases m) q
    · exact out v σ H' Z' env Fs d Fd rl rd nd hF q
end
/-! ### attributes that are stored -/
def classFields : List (Str × List Str) := [("Tree", ["kinds", "elders", "starts"]), ("Chart", ["boxes", "names", "tree", "ins", "outs", "ways"]), ("Runner", ["boxes", "book"]),
  ("FlatRun", ["boxes", "book", "table", "place", "been"]), ("NestRun", ["boxes", "book", "chart", "opens", "memory", "been"]), ("Table", ["boxes", "signs", "begin", "flats", "rows"])]
def fieldsOf (c : Str) : List Str := (classFields.lookup c).getD []
def putN (f : Str) : List Str → List Str
  | [] => [f]
  | g :: r => if g = f then g :: r else g :: putN f r
def putX {α : Type} (f : Str) (x : α) : List Str → List α → List α
  | g :: r, y :: ys => if g = f then x :: ys else y :: putX f x r ys
  | _, _ => [x]
theorem putF_zip (f : Str) (w : V) : ∀ {ns : List Str} {vs : List V}, ns.length = vs.length → putF f w (ns.zip vs) = (putN f ns).zip (putX f w ns vs)
  | [], [], _ => rfl
  | [], _ :: _, h => by simp at h
  | _ :: _, [], h => by simp at h
  | n :: ns, v :: vs, h => by
    have ih := putF_zip f w (ns := ns) (vs := vs) (by simpa using h)
    show (if n = f then (n, w) :: ns.zip vs else (n, v) :: putF f w (ns.zip vs)) = (if n = f then n :: ns else n :: putN f ns).zip (if n = f then w :: vs else v :: putX f w ns vs)
    split
    · rfl
    · rw [ih]; rfl
theorem putN_len {α : Type} (f : Str) (x : α) : ∀ {ns : List Str} {xs : List α}, ns.length = xs.length → (putN f ns).length = (putX f x ns xs).length
  | [], [], _ => rfl
  | [], _ :: _, h => by simp at h
  | _ :: _, [], h => by simp at h
  | n :: ns, v :: vs, h => by
    have ih := putN_len f x (ns := ns) (xs := vs) (by simpa using h)
    show (if n = f then n :: ns else n :: putN f ns).length = (if n = f then x :: vs else v :: putX f x ns vs).length
    split
    · simpa using h
    · simp [ih]
theorem putN_mem {f : Str} {P : Str → Prop} (hf : P f) : ∀ {ns : List Str}, (∀ n ∈ ns, P n) → ∀ n ∈ putN f ns, P n
  | [], _, n, m => by rw [List.mem_singleton.mp m]; exact hf
  | g :: r, h, n, m => by
    have m : n ∈ (if g = f then g :: r else g :: putN f r) := m
    split at m
    · exact h n m
    · rcases List.mem_cons.mp m with rfl | m
      · exact h n List.mem_cons_self
      · exact putN_mem hf (fun n m => h n (List.mem_cons_of_mem _ m)) n m
section
variable {K : PySem.W.Frag} {cs : Cs} {H H' : Hp} {Z Z' : Addr → Prop}
theorem RL.putw {f : Str} {x : D} {w : V} {Fx : List Addr} (rx : R K cs H Z x w Fx) (ndx : Fx.Nodup) : ∀ {ns : List Str} {xs : List D} {vs : List V} {F : List Addr}, ns.length = xs.length → RL K cs H Z xs vs F → F.Nodup → (∀ a ∈ F, a ∉ Fx) →
    ∃ F'', RL K cs H Z (putX f x ns xs) (putX f w ns vs) F'' ∧ F''.Nodup ∧ ∀ a ∈ F'', a ∈ F ∨ a ∈ Fx
  | [], [], vs, F, _, r, nd, dj => by
    rw [r.1]
    exact ⟨Fx, RL.one rx, ndx, fun a m => .inr m⟩
  | [], _ :: _, _, _, h, _, _, _ => by simp at h
  | _ :: _, [], _, _, h, _, _, _ => by simp at h
  | n :: ns, y :: ys, vs, F, l, r, nd, dj => by
    obtain ⟨v, vs', F1, F2, rfl, r1, r2, rfl⟩ := r
    have nn := List.nodup_append.mp nd
    by_cases e : n = f
    · rw [show putX f x (n :: ns) (y :: ys) = x :: ys from if_pos e, show putX f w (n :: ns) (v :: vs') = w :: vs' from if_pos e]
      exact ⟨Fx ++ F2, ⟨w, vs', Fx, F2, rfl, rx, r2, rfl⟩, List.nodup_append.mpr ⟨ndx, nn.2.1, fun a m b k e => by subst e; exact dj a (List.mem_append_right _ k) m⟩, fun a m => (List.mem_append.mp m).elim .inr fun m => .inl (List.mem_append_right _ m)⟩
    · rw [show putX f x (n :: ns) (y :: ys) = y :: putX f x ns ys from if_neg e, show putX f w (n :: ns) (v :: vs') = v :: putX f w ns vs' from if_neg e]
      obtain ⟨G, rg, ndg, hg⟩ := RL.putw (f := f) rx ndx (ns := ns) (by simpa using l) r2 nn.2.1 fun a m => dj a (List.mem_append_right _ m)
      refine ⟨F1 ++ G, ⟨v, _, F1, G, rfl, r1, rg, rfl⟩, List.nodup_append.mpr ⟨nn.1, ndg, fun a m b k e => ?_⟩, fun a m => ?_⟩
      · subst e
        rcases hg a k with k | k
        · exact nn.2.2 a m a k rfl
        · exact dj a (List.mem_append_left _ m) k
      · rcases List.mem_append.mp m with m | m
        · exact .inl (List.mem_append_left _ m)
        · exact (hg a m).imp_left (List.mem_append_right _)
/-- an object at a place is written -/
theorem Rel.foc_objw {e : En} {σ : L2.St} {env : Env} {Fs : Nat → List Addr} {i : Nat} (r : Rel K cs e H Z σ env Fs) {d : D} {v u : V} {put : D → D} {c : Str} {ns : List Str} {xs : List D} (hd : env[i]? = some (some d)) (hσ : σ[i]? = some (some v)) (f : Foc K cs H Z v (Fs i) (.obj true c ns xs) u put) :
    ∃ p dx ci vs, u = .ref p ∧ ci ∈ cs ∧ ci.name = c ∧ (∀ n ∈ ns, n ∈ ci.fields) ∧ H p = some (.ins ci.addr dx (ns.zip vs)) ∧ vs.length = xs.length ∧ ns.length = xs.length ∧ ∀ (ns' : List Str) (xs' : List D) (vs' : List V) (Fx : List Addr), (∀ n ∈ ns', n ∈ ci.fields) → ns'.length = xs'.length →
      (∀ a ∈ Fx, ¬ Z a ∧ (∃ o, H a = some o) ∧ (∀ j, a ∉ Fs j) ∧ (e.W a ∨ e.H0 a = none)) →
      (∀ F', RL K cs H Z xs vs F' → F'.Nodup → (∀ a ∈ F', a ∉ Fx) → ∃ F'', RL K cs H Z xs' vs' F'' ∧ F''.Nodup ∧ ∀ a ∈ F'', a ∈ F' ∨ a ∈ Fx) → ∃ Fs', Rel K cs e (upd H p (.ins ci.addr dx (ns'.zip vs'))) Z σ (env.set i (some (put (.obj true c ns' xs')))) Fs' := by
  obtain ⟨Fe0, re0⟩ := f.here
  obtain ⟨p, dx, ci, vs, F0, rfl, mem, nm, fl, t, l, rl0, _⟩ := re0
  refine ⟨p, dx, ci, vs, rfl, mem, nm, fl, t, rl0.len, l, fun ns' xs' vs' Fx fl' l' hx hr => ?_⟩
  have hw : ∀ (F'' : List Addr), RL K cs (upd H p (.ins ci.addr dx (ns'.zip vs'))) Z xs' vs' F'' → R K cs (upd H p (.ins ci.addr dx (ns'.zip vs'))) Z (.obj true c ns' xs') (.ref p) (p :: F'') := fun F'' h => ⟨p, dx, ci, vs', F'', rfl, mem, nm, fl', upd_same, l', h, rfl⟩
  obtain ⟨Fs', r', _⟩ := r.foc_put (H' := upd H p (.ins ci.addr dx (ns'.zip vs'))) (Z' := Z) (x' := .obj true c ns' xs') hd hσ f fun F1 Fe F2 hF nd hm re => by
    obtain ⟨q, dx', ci', ws, F', e1, mem', nm', fl'', t1, l'', rl, hFe⟩ := re
    cases e1
    rw [t] at t1
    have t1 := Option.some.inj t1
    injection t1 with ta tb tc
    have hws : ws = vs := by
      have h1 := congrArg (List.map Prod.snd) tc
      rw [List.map_snd_zip (by rw [rl0.len, l]; exact Nat.le_refl _), List.map_snd_zip (by rw [rl.len, l'']; exact Nat.le_refl _)] at h1
      exact h1.symm
    subst hws
    subst hFe
    have inFs : ∀ a ∈ p :: F', a ∈ Fs i := fun a m => by rw [hF]; simp only [List.mem_append]; exact .inr (.inl m)
    have np := List.nodup_cons.mp nd
    obtain ⟨F'', rl2, nd2, h2⟩ := hr F' rl np.2 fun a m n => (hx a n).2.2.1 i (inFs a (List.mem_cons_of_mem _ m))
    have np2 : p ∉ F'' := fun m => by
      rcases h2 p m with m | m
      · exact np.1 m
      · exact (hx p m).2.2.1 i (inFs p List.mem_cons_self)
    refine ⟨p :: F'', hw F'' (RL.writes rl2 t trivial np2 (hm p List.mem_cons_self).2.2.1), fun _ z => z, fun _ z => .inl z, fun a o ho q => ?_, List.nodup_cons.mpr ⟨np2, nd2⟩, fun a m => ?_⟩
    · rw [upd_ne]
      · exact ho
      · intro w; subst w
        rw [t] at ho; cases ho
        rcases q with q | q
        · exact q List.mem_cons_self
        · exact q trivial
    · rcases List.mem_cons.mp m with rfl | m
      · exact ⟨(hm a List.mem_cons_self).2.2.1, .inl List.mem_cons_self⟩
      · rcases h2 a m with m | m
        · exact ⟨(hm a (List.mem_cons_of_mem _ m)).2.2.1, .inl (List.mem_cons_of_mem _ m)⟩
        · exact ⟨(hx a m).1, .inr (hx a m).2.2⟩
  exact ⟨Fs', r'⟩
end
section
variable {X : Cx} {cs : Cs} {L : List Nat} {a b c : Expr} {pos : Pos} {ta tb : TED} {st : Stmt} {tp : TPD} {i : Nat} {es : List Expr}
/-- P.f = e -/
def dFs (f : Str) (x : D) : D → (D → Prop) → Prop
  | .obj true c ns xs, Q => f ∈ fieldsOf c ∧ ns.length < 1000 ∧ Q (.obj true c (putN f ns) (putX f x ns xs))
  | _, _ => False
def fset_ (i : Nat) (tp : TPD) (f : Str) (ta : TED) : TSD := fun E env => ta env fun x => tp env fun put d => dFs f x d fun d' => E.nx (env.set i (some (put d')))
theorem vs_fset {o : Expr} {f : Str} {p1 : Pos} (hC : CsOk X.K cs) (hcf : ∀ ci ∈ cs, ci.fields = fieldsOf ci.name) (ha : VT X cs a ta) (ho : VPa X cs i o tp) (hs : swapsWith a (some (.Attribute o f p1)) pos.line X.env = pure false := by rfl) : VS X cs L (.Assign [.Attribute o f p1] a pos) (fset_ i tp f ta) :=
  ⟨fun e hl => ps_weak (ps_fld ho.run ha.run hs) fun D σ H ⟨env, Z, Fs, E, rl, q, ok⟩ => ⟨e, env, Z, Fs, rl, _, q, fun w H1 Z1 dx F x1 rx nd fre q => by
    have rl1 := rl.ext x1
    refine ⟨e, env, Z1, Fs, rl1, _, q, fun u H2 Z2 put d0 d v x2 hσ hd fo q => ?_⟩
    have rl2 := rl1.ext x2
    unfold dFs at q
    split at q
    · rename_i c ns xs
      obtain ⟨hf, hn, q5⟩ := q
      obtain ⟨p, dx', ci, vs, rfl, mem, nm, fl, t, hl1, hl2, up⟩ := rl2.foc_objw hd hσ fo
      have nw := rl.newto rx fre
      have nw3 : ∀ a ∈ F, ¬ Z2 a ∧ (∃ o, H2 a = some o) ∧ (∀ j, a ∉ Fs j) ∧ (e.W a ∨ e.H0 a = none) := fun a m => by
        obtain ⟨o, w⟩ := (nw a m).2.1
        refine ⟨fun z => ?_, x2.same.there _ o w, (nw a m).2.2⟩
        rcases x2.new a z with z | ⟨z, _⟩
        · exact (nw a m).1 z
        · rw [z] at w; cases w
      have hfc : f ∈ ci.fields := by rw [hcf ci mem, nm]; exact hf
      obtain ⟨Fs', r'⟩ := up (putN f ns) (putX f dx ns xs) (putX f w ns vs) F (putN_mem (P := fun n => n ∈ ci.fields) hfc fl) (putN_len f dx hl2) nw3 fun F' r nd' dj => RL.putw (rx.ext x2) nd hl2 r nd' dj
      rw [← putF_zip f w (by rw [hl1, hl2])] at r'
      refine ⟨p, ci.addr, dx', _, rfl, t, (hC ci mem).1, (hC ci mem).2 f hfc, ?_, ok.nx σ _ Z2 _ Fs' r' q5⟩
      rw [List.length_zip]; omega
    · exact False.elim q⟩⟩
/-! ### a class is called -/
structure KnC (P : Program) (w : World) (K : PySem.W.Frag) (mg : Str → Option Value) (base : Heap) (cs : Cs) (x : Str) (k : Nat) (ps : List Str) (s : SpM) : Prop where
  ex : ∃ (C f : Addr) (fd : FuncData) (ci : CI), Mk K C f ∧ FnOk P w K mg base CX0 k f fd ps (spOfM K cs [0] s) ∧ mg x = some (.ref C) ∧ Binds K fd ps [] ∧ ci ∈ cs ∧ ci.name = x ∧ ci.addr = C
def makeD (c : Str) (s : SpM) (u : TAD) : TED := fun env Q => u env fun ds => s (.obj true c [] [] :: frzL ds) fun r ds' => ∃ d' rest, ds' = d' :: rest ∧ r = .non ∧ (alo d' = true ∨ noOwnL ds = true) ∧ Q d'
theorem vt_make {s : SpM} {k : Nat} {ps : List Str} {x : Str} {p : Pos} {u : TAD} (h : KnC X.prog X.w X.K X.mg X.base cs x k ps s) (hr : Room (k + 1) X.A) (hg : Gl X x) (ha : VAr X cs (a :: es) u) (hdb : (x == ("__debug__" : Str)) = false := by decide)
    (he : starEach (a :: es) X.env = (false, eval a X.env) :: starEach es X.env := by rfl) (hpl : (backTo pos (starEach es X.env)).any (·.1) = false := by rfl) : VT X cs (.Call (.Name x p) (a :: es) [] pos) (makeD x s u) := by
  obtain ⟨C, f, fd, ci, M, F, hm, hb, mem, nm, hci⟩ := h.ex
  refine ⟨pe_weak (pe_make M F hr hg hm hb .nil pass0 ha.run hdb he hpl) fun σ H Q ⟨e, env, Z, Fs, rl, QD, q, k⟩ => ⟨e, env, Z, Fs, rl, _, q, fun vs H1 Z1 ds F1 x1 r1 q1 => fun xx dx nx ndx nex => ?_⟩⟩
  rw [List.append_nil]
  have s1 : Sm cs H1 (upd (upd H1 dx (.own xx)) xx (.ins C dx [])) := .of fun b o e => by rw [upd_ne (ne_of_none e nx), upd_ne (ne_of_none e ndx)]; exact e
  have al := RL.alloc _ _ _ r1
  have rl1 := rl.ext x1
  have hobj : R X.K cs (upd (upd H1 dx (.own xx)) xx (.ins C dx [])) (fun a => Z1 a ∨ a ∈ F1) (.obj true x [] []) (.ref xx) [xx] := ⟨xx, dx, ci, [], [], rfl, mem, nm, fun n m => (by cases m), by rw [upd_same, hci]; rfl, rfl, ⟨rfl, rfl⟩, rfl⟩
  refine ⟨s1.tabs rl1.tb, fun a => Z1 a ∨ a ∈ F1, .obj true x [] [] :: frzL ds, [xx], fun a z => ?_, ⟨.ref xx, vs, [xx], [], rfl, hobj, RL.ext (Ext.of s1) (RL.fr (fun _ h => .inl h) ds vs F1 (fun _ m => .inr m) r1), rfl⟩, by simp, fun a m z => ?_, fun i d hd hi => ?_, _, q1, ?_⟩
  · rcases z with z | z
    · obtain ⟨o, w⟩ := rl1.za a z
      exact s1.there _ o w
    · obtain ⟨o, w⟩ := al a z
      exact s1.there _ o w
  · rw [List.mem_singleton.mp m] at z
    rcases z with z | z
    · exact rl1.nz nx z
    · obtain ⟨o, w⟩ := al xx z
      rw [nx] at w; cases w
  · cases i with
    | zero => exact absurd List.mem_cons_self hi
    | succ i =>
      have h0 := frzL_noOwn ds
      rw [noOwnL_all, List.all_eq_true] at h0
      exact h0 d (List.mem_of_getElem? (by simpa using hd))
  · rintro v H2 Z2 r ds' Fr F' up zn za kp kt tb2 RLd Rr nd hF ⟨d', rest, rfl, rfl, c, q2⟩
    obtain ⟨v0, vs', G1, G2, e1, rd, _, rfl⟩ := RLd
    cases e1
    have nd1 := (List.nodup_append.mp (List.nodup_append.mp nd).1).1
    have s2 : Sm cs H1 H2 := ⟨fun b o e n => kp b o (s1.keep b o e n) n (fun m => by rw [List.mem_singleton.mp m, nx] at e; cases e), fun b o e => let ⟨o1, e1⟩ := s1.there b o e; kt b o1 e1 (fun m => by rw [List.mem_singleton.mp m, nx] at e; cases e), fun _ => tb2⟩
    have old : ∀ a ∈ G1, H1 a = none := fun a m => by
      rcases (hF a (List.mem_append_left _ (List.mem_append_left _ m))).2 with w | w
      · rw [List.mem_singleton.mp w]; exact nx
      · exact s1.free w
    refine ⟨Rr.1, ?_⟩
    rcases c with c | c
    · exact k _ H2 Z1 d' G1 (x1.trans (Ext.of s2)) (R.anyZ _ _ _ c rd) nd1 (fun a m => ⟨x1.same.free (old a m), fun z => rl1.nz (old a m) z⟩) q2
    · have e0 := RL.noF ds vs F1 c r1
      subst e0
      refine k _ H2 Z2 d' G1 (x1.trans ⟨s2, fun a z => up a (.inl z), fun a z => ?_⟩) rd nd1 (fun a m => ⟨x1.same.free (old a m), (hF a (List.mem_append_left _ (List.mem_append_left _ m))).1⟩) q2
      rcases zn a z with w | w | w
      · exact .inl (w.elim id fun m => by cases m)
      · exact .inr ⟨by rw [List.mem_singleton.mp w]; exact nx, za a z⟩
      · exact .inr ⟨s1.free w, za a z⟩
end
/-! ### the law's own promise -/
def spTop (K : PySem.W.Frag) (tb : List (Addr × Str)) (n : Nat) : Sp := fun vs H Q _ => LamX.Tabs tb H ∧ ∃ (p : Addr) (xs : List Int), vs = [.ref p] ∧ SqL K H p (xs.map V.int) ∧ xs.length ≤ n ∧ ∀ H', Q (.bl true) H'
theorem top_imp {K : PySem.W.Frag} {cs : Cs} {n : Nat} {vs : List V} {H : Hp} {Q : VK} {E : XK} (h : spTop K cs.tb n vs H Q E) : spOf K cs (spLaw fun ys => ys.length ≤ n) vs H Q E := by
  obtain ⟨tb, p, xs, rfl, hS, hl, q⟩ := h
  refine ⟨tb, fun b => b = p ∧ ∃ o, H b = some o, [.lst false (xs.map .int)], fun b z => z.2, ?_, fun r => r = .bl true, ⟨xs, rfl, hl, rfl⟩, fun v H' Z' r F _ rr _ _ e => by subst e; rw [rr.1]; exact q H'⟩
  refine RL.one ⟨p, _, rfl, ?_, RL.of_ints xs, rfl⟩
  rcases hS with hS | hS
  · exact .inl ⟨hS, rfl, by rcases hS with hS | ⟨o, hS⟩ <;> exact ⟨_, hS⟩⟩
  · exact .inr hS
end VL
set_option maxHeartbeats 2000000
namespace VL
open PySem L2 PyProof.Rows
section
variable {K : PySem.W.Frag} {cs : Cs}
/-! ### built-ins over a list -/
def dSum (ds : List D) (Q : D → Prop) : Prop := ∃ (m : Bool) (ns : List Int), ds = [.lst m (ns.map .int)] ∧ Q (.int ns.sum)
def dMaxL (ds : List D) (Q : D → Prop) : Prop := ∃ (m : Bool) (ns : List Int), ds = [.lst m (ns.map .int)] ∧ 0 < ns.length ∧ ∀ x, x ∈ ns → (∀ y, y ∈ ns → y ≤ x) → Q (.int x)
def dMinL (ds : List D) (Q : D → Prop) : Prop := ∃ (m : Bool) (ns : List Int), ds = [.lst m (ns.map .int)] ∧ 0 < ns.length ∧ ∀ x, x ∈ ns → (∀ y, y ∈ ns → x ≤ y) → Q (.int x)
def dAny (ds : List D) (Q : D → Prop) : Prop := ∃ (m : Bool) (bs : List Bool), ds = [.lst m (bs.map .bl)] ∧ Q (.bl (bs.any id))
def dAll (ds : List D) (Q : D → Prop) : Prop := ∃ (m : Bool) (bs : List Bool), ds = [.lst m (bs.map .bl)] ∧ Q (.bl (bs.all id))
theorem RL.bls {H : Hp} {Z : Addr → Prop} : ∀ {ns : List Bool} {vs : List V} {F : List Addr}, RL K cs H Z (ns.map .bl) vs F → vs = ns.map .bl
  | [], _, _, r => r.1
  | n :: ns, vs, F, r => by
    obtain ⟨v, vs', F1, F2, rfl, r1, r2, rfl⟩ := r
    rw [r1.1, RL.bls r2]; rfl
theorem RL.strs {H : Hp} {Z : Addr → Prop} : ∀ {ns : List Str} {vs : List V} {F : List Addr}, RL K cs H Z (ns.map .str) vs F → vs = ns.map .str
  | [], _, _, r => r.1
  | n :: ns, vs, F, r => by
    obtain ⟨v, vs', F1, F2, rfl, r1, r2, rfl⟩ := r
    rw [r1.1, RL.strs r2]; rfl
theorem RL.of_strs {H : Hp} {Z : Addr → Prop} : ∀ (ns : List Str), RL K cs H Z (ns.map .str) (ns.map .str) []
  | [] => ⟨rfl, rfl⟩
  | n :: ns => ⟨_, _, [], [], rfl, ⟨rfl, rfl⟩, RL.of_strs ns, rfl⟩
theorem cd_sum : CD K cs (rSum K) dSum := by
  intro H Z Q QD ds vs F za rv q k
  obtain ⟨m, ns, rfl, q⟩ := q
  obtain ⟨v, rfl, rw⟩ := RL.one1 rv
  obtain ⟨a, ws, F', rfl, t, r, _⟩ := R.lstv rw
  rw [RL.ints r] at t
  exact ⟨a, ns, rfl, t, fin_at (d := .int _) k ⟨rfl, rfl⟩ q⟩
theorem cd_maxL : CD K cs (rMax K) dMaxL := by
  intro H Z Q QD ds vs F za rv q k
  obtain ⟨m, ns, rfl, h, q⟩ := q
  obtain ⟨v, rfl, rw⟩ := RL.one1 rv
  obtain ⟨a, ws, F', rfl, t, r, _⟩ := R.lstv rw
  rw [RL.ints r] at t
  exact ⟨a, ns, rfl, t, h, fun x h1 h2 => fin_at (d := .int _) k ⟨rfl, rfl⟩ (q x h1 h2)⟩
theorem cd_minL : CD K cs (rMin K) dMinL := by
  intro H Z Q QD ds vs F za rv q k
  obtain ⟨m, ns, rfl, h, q⟩ := q
  obtain ⟨v, rfl, rw⟩ := RL.one1 rv
  obtain ⟨a, ws, F', rfl, t, r, _⟩ := R.lstv rw
  rw [RL.ints r] at t
  exact ⟨a, ns, rfl, t, h, fun x h1 h2 => fin_at (d := .int _) k ⟨rfl, rfl⟩ (q x h1 h2)⟩
theorem cd_any : CD K cs (rAny K) dAny := by
  intro H Z Q QD ds vs F za rv q k
  obtain ⟨m, ns, rfl, q⟩ := q
  obtain ⟨v, rfl, rw⟩ := RL.one1 rv
  obtain ⟨a, ws, F', rfl, t, r, _⟩ := R.lstv rw
  rw [RL.bls r] at t
  exact ⟨a, ns, rfl, t, fin_at (d := .bl _) k ⟨rfl, rfl⟩ q⟩
theorem cd_all : CD K cs (rAll K) dAll := by
  intro H Z Q QD ds vs F za rv q k
  obtain ⟨m, ns, rfl, q⟩ := q
  obtain ⟨v, rfl, rw⟩ := RL.one1 rv
  obtain ⟨a, ws, F', rfl, t, r, _⟩ := R.lstv rw
  rw [RL.bls r] at t
  exact ⟨a, ns, rfl, t, fin_at (d := .bl _) k ⟨rfl, rfl⟩ q⟩
end
theorem boot_lists : bootBuiltins "any" = some (.builtin "any") ∧ bootBuiltins "all" = some (.builtin "all") := by decide +kernel
/-! ### loops over range(i, j) -/
theorem for_rng2 {i : Nat} {u : TAD} {tb : TSD} {E : EndsD} {env : Env} {lo j : Int} (hu : ∀ Q : List D → Prop, Q [.int lo, .int j] → u env Q) (h1 : -(2 ^ 62) ≤ lo) (h2 : lo < 2 ^ 62) (h3 : -(2 ^ 62) ≤ j) (h4 : j < 2 ^ 62) (Pv : Int → Env → Prop) (h0 : Pv lo env)
    (hs : ∀ (k : Int) env', lo ≤ k → k < j → Pv k env' → tb { nx := Pv (k + 1), ct := Pv (k + 1), bk := E.nx, rt := E.rt } (env'.set i (some (.int k)))) (hd : ∀ env', Pv (if lo ≤ j then j else lo) env' → E.nx env') : for_ i (rng2_ u) tb E env := by
  refine hu _ ⟨⟨h1, h2, h3, h4⟩, fun k => Pv (lo + (k : Nat)), by simpa using h0, fun k d env' hk pv => ?_, fun env' pv => ?_⟩
  · obtain ⟨hk, rfl⟩ := rng_get hk
    have := hs (lo + (k : Nat)) env' (by omega) (by omega) pv
    show tb { nx := Pv (lo + ((k + 1 : Nat) : Int)), rt := E.rt, bk := E.nx, ct := Pv (lo + ((k + 1 : Nat) : Int)) } _
    rw [show lo + ((k + 1 : Nat) : Int) = lo + (k : Nat) + 1 by omega]
    exact this
  · rw [rng_len] at pv
    refine hd env' ?_
    split
    · rw [show lo + (((j - lo).toNat : Nat) : Int) = j by omega] at pv; exact pv
    · rw [show lo + (((j - lo).toNat : Nat) : Int) = lo by omega] at pv; exact pv
end VL
set_option maxHeartbeats 2000000
namespace PySem.AutoSeq1
open PySem
theorem list___add___any (l : Addr) (items : Array Value) (n : Nat) (b : Addr) (items2 : Array Value) (n2 : Nat) (d1 d2 : Option Addr) (s1 s2 : Array (Option Value)) (hc0 : items.size + items2.size ≤ sizeLine) :
    Meets (Builtin.«list.__add__» ⟨[.ref l, .ref b], []⟩) (fun _ R s => s.heap.get? l = some { cls := .type "list", dict := d1, data := .seq items n, slots := s1 } ∧ s.heap.get? b = some { cls := .type "list", dict := d2, data := .seq items2 n2, slots := s2 } ∧ R (.ok (.ret (Value.ref s.heap.objs.size))) { s with heap := s.heap.push { cls := Value.type "list", data := Data.seq (items ++ items2) }, toks := s.toks }) :=
  .of_wp fun prog w A R s h => by obtain ⟨hp, g, d, tk, os⟩ := s; obtain ⟨hl, hb, h⟩ := h; have f1 := idx_int; have f2 := sub_tuple_tuple; have f3 := sub_list_list; have f4 := sub_tuple_list; have f5 := sub_list_tuple; wp_walk using wpAny_loadPart' hl, wpAny_loadPart' hb; exact ⟨_, rfl, h⟩
theorem list_extend_any (l : Addr) (items : Array Value) (n : Nat) (b : Addr) (items2 : Array Value) (n2 : Nat) (d2 : Option Addr) (s2 : Array (Option Value)) (hc0 : ¬(!items.isEmpty && Builtin.List.listTooLong (items.size + items2.size)) = true) (hc1 : items.size ≤ sizeLine) (hs2 : items.size + items2.size ≤ sizeLine + 1 := by seq_fits) :
    Meets (Builtin.«list.extend» ⟨[.ref l, .ref b], []⟩) (fun _ R s => s.heap.get? l = some { cls := .type "list", dict := none, data := .seq items n, slots := #[] } ∧ s.heap.get? b = some { cls := .type "list", dict := d2, data := .seq items2 n2, slots := s2 } ∧ R (.ok (.ret Value.none)) { s with heap := s.heap.update l (Obj.mapSeq fun x => x ++ items2), toks := s.toks }) :=
  .of_wp fun prog w A R s h => by
    obtain ⟨hp, g, d, tk, os⟩ := s; obtain ⟨hl, hb, h⟩ := h; have f1 := idx_int; have f2 := sub_tuple_tuple; have f3 := sub_list_list; have f4 := sub_tuple_list; have f5 := sub_list_tuple;
    have hz' : (items ++ items2).size ≤ sizeLine + 1 := by rw [Array.size_append]; exact hs2
    wp_walk using (wpAny_updateSeq hl rfl (hz := hc1) (_hz' := hz')), wpAny_loadPart' hl, wpAny_loadPart' hb; exact ⟨_, rfl, h⟩
theorem list_extend_tup (l : Addr) (items : Array Value) (n : Nat) (b : Addr) (items2 : Array Value) (n2 : Nat) (d2 : Option Addr) (s2 : Array (Option Value)) (hs0 : ¬(!items.isEmpty && Builtin.List.listTooLong (items.size + items2.size)) = true) (hs1 : items.size ≤ sizeLine) (hs2 : items.size + items2.size ≤ sizeLine + 1 := by seq_fits) :
    Meets (Builtin.«list.extend» ⟨[.ref l, .ref b], []⟩) (fun _ R s => s.heap.get? l = some { cls := .type "list", dict := none, data := .seq items n, slots := #[] } ∧ s.heap.get? b = some { cls := .type "tuple", dict := d2, data := .seq items2 n2, slots := s2 } ∧ R (.ok (.ret Value.none)) { s with heap := s.heap.update l (Obj.mapSeq fun x => x ++ items2), toks := s.toks }) :=
  .of_wp fun prog w A R s h => by
    obtain ⟨hp, g, d, tk, os⟩ := s; obtain ⟨hl, hb, h⟩ := h; have f1 := idx_int; have f2 := sub_tuple_tuple; have f3 := sub_list_list; have f4 := sub_tuple_list; have f5 := sub_list_tuple;
    have hz' : (items ++ items2).size ≤ sizeLine + 1 := by rw [Array.size_append]; exact hs2
    wp_walk using (wpAny_updateSeq hl rfl (hz := hs1) (_hz' := hz')), wpAny_loadPart' hl, wpAny_loadPart' hb; exact ⟨_, rfl, h⟩
end PySem.AutoSeq1
namespace VL
open PySem L2 PyProof.Rows
/-! ### lists of any kind: added, and to extend by -/
def rCatG (K : PySem.W.Frag) : R2 := fun x y H Q => ∃ l b xs zs, x = .ref l ∧ y = .ref b ∧ SqL K H l xs ∧ SqL K H b zs ∧ xs.length + zs.length ≤ sizeLine ∧ ∀ p, H p = none → Q (.ref p) (upd H p (.lst (xs ++ zs)))
theorem op_catG {X : Cx} : OpR X (binaryOp .Add) (rCatG X.K) := by
  intro pins s σ H x y v u Q I rx ry h
  obtain ⟨l, b, xs, zs, rfl, rfl, hH, hB, hz, q⟩ := h
  cases rx
  cases ry
  obtain ⟨its, r, ⟨⟨c1, d1, t1, s1⟩, n1, e1, rfl, _, rfl⟩, _⟩ := I.list hH
  obtain ⟨its2, r2, ⟨⟨c2, d2, t2, s2⟩, n2, e2, rfl, _, rfl⟩, _⟩ := I.list hB
  have hl := r.length
  have hl2 := r2.length
  refine PySem.concat_meets ⟨_, e1, rfl⟩ ⟨_, e2, rfl⟩ PySem.noFill_list_add PySem.seq_list_add PySem.F.slot_list_add PySem.F.entry_list_add (PySem.F.args_list_add_2 _ _)
    (PySem.AutoSeq1.list___add___any l its.toArray n1 b its2.toArray n2 d1 d2 s1 s2 (by rw [List.size_toArray, List.size_toArray]; omega)) ⟨e1, e2, ?_⟩
  have ea : its.toArray ++ its2.toArray = (its ++ its2).toArray := by simp
  rw [ea]
  exact ⟨.ref _, _, I.lnew (t' := s.toks) (r.append r2) (by rw [List.length_append]; omega), rfl, q _ I.fresh⟩
def rExtG (K : PySem.W.Frag) : V → List V → Hp → VK → Prop := fun x vs H Q => ∃ l b xs zs, x = .ref l ∧ vs = [.ref b] ∧ H l = some (.lst xs) ∧ (SqL K H b zs ∨ SqT K H b zs) ∧ xs.length + zs.length ≤ sizeLine ∧ Q .non (upd H l (.lst (xs ++ zs)))
theorem mt_extG {X : Cx} : MtM X "list.extend" (rExtG X.K) := by
  intro pins s σ H x vs v us Q I rx rv h
  obtain ⟨l, b, xs, zs, rfl, rfl, hH, hB, hz, q⟩ := h
  cases rx
  obtain ⟨u, rfl, ru⟩ := rv.one
  cases ru
  obtain ⟨z, its, n, r, hl, e⟩ := I.lstM hH
  have go : ∀ its2 : List Value, Vals zs its2 → (∀ hsz : ¬ (!its.toArray.isEmpty && Builtin.List.listTooLong (its.toArray.size + its2.toArray.size)) = true, wpAny (model X.prog X.w) X.A (call (.builtin "list.extend") [.ref l, .ref b]) (EP X pins σ Q) X.xe s) → wpAny (model X.prog X.w) X.A (call (.builtin "list.extend") [.ref l, .ref b]) (EP X pins σ Q) X.xe s := fun its2 r2 h => by
    have hl2 := r2.length
    have hsz : its.toArray.size + its2.toArray.size ≤ sizeLine := by rw [List.size_toArray, List.size_toArray]; omega
    exact h (by rw [notLongL hsz, Bool.and_false]; exact Bool.false_ne_true)
  have fin : ∀ its2 : List Value, Vals zs its2 → EP X pins σ Q .none { s with heap := s.heap.update l (Obj.mapSeq fun x => x ++ its2.toArray), toks := s.toks } := fun its2 r2 => by
    refine ⟨.non, _, I.lset (its' := its ++ its2) hH e (by simp) (r.append r2) ?_, rfl, q⟩
    rw [List.length_append]
    omega
  rcases hB with hB | hB
  · obtain ⟨its2, r2, ⟨⟨c2, d2, t2, s2⟩, n2, e2, rfl, _, rfl⟩, _⟩ := I.list hB
    have hl2 := r2.length
    exact go its2 r2 fun hlong => call_meets PySem.F.slot_list_extend ⟨_, e, rfl⟩ PySem.F.entry_list_extend (PySem.F.args_list_extend_2 _ _)
      (PySem.AutoSeq1.list_extend_any l its.toArray n b its2.toArray n2 d2 s2 hlong (by rw [List.size_toArray]; omega) (by simp only [List.size_toArray]; omega)) ⟨e, e2, fin its2 r2⟩
  · obtain ⟨its2, r2, ⟨⟨c2, d2, t2, s2⟩, e2, rfl, n2, rfl⟩, _⟩ := I.tuple hB
    have hl2 := r2.length
    exact go its2 r2 fun hlong => call_meets PySem.F.slot_list_extend ⟨_, e, rfl⟩ PySem.F.entry_list_extend (PySem.F.args_list_extend_2 _ _)
      (PySem.AutoSeq1.list_extend_tup l its.toArray n b its2.toArray n2 d2 s2 hlong (by rw [List.size_toArray]; omega) (by simp only [List.size_toArray]; omega)) ⟨e, e2, fin its2 r2⟩
section
variable {K : PySem.W.Frag} {cs : Cs}
def rAll5 (K : PySem.W.Frag) : R2 := fun x y H Q => rAll4 K x y H Q ∨ rCatG K x y H Q
theorem op_add5 {X : Cx} : OpR X (binaryOp .Add) (rAll5 X.K) := op_add4.or op_catG
def dAddG : D → D → (D → Prop) → Prop
  | .int i, .int j, Q => Q (.int (i + j))
  | .str i, .str j, Q => i.length + j.length ≤ sizeLine ∧ Q (.str (i ++ j))
  | .lst _ xs, .lst _ ys, Q => noOwnL xs = true ∧ noOwnL ys = true ∧ xs.length + ys.length ≤ sizeLine ∧ Q (.lst true (xs ++ ys))
  | .tup xs, .tup ys, Q => xs ≠ [] ∧ noOwnL xs = true ∧ noOwnL ys = true ∧ xs.length + ys.length ≤ sizeLine ∧ Q (.tup (xs ++ ys))
  | _, _, _ => False
theorem od_addG : OD K cs (rAll5 K) dAddG := by
  intro H Z Q QD x y v w F G za rx ry q k
  have old : dAdd x y QD → rAll5 K v w H Q := fun h => .inl (od_add H Z Q QD x y v w F G za rx ry h k)
  cases x with
  | lst m xs =>
    cases y with
    | lst m' ys =>
      obtain ⟨n1, n2, l, q⟩ := q
      obtain ⟨a, vs, F', rfl, t, r, _⟩ := R.lstv rx
      obtain ⟨b, ws, G', rfl, t2, r2, _⟩ := R.lstv ry
      exact .inr ⟨a, b, vs, ws, rfl, rfl, t, t2, by rw [r.len, r2.len]; exact l, fun p hp => fin_lst za k hp (RL.app0 (RL.noF0 r n1) (RL.noF0 r2 n2)) q⟩
    | _ => exact False.elim q
  | int i => cases y <;> first | exact old q | exact False.elim q
  | str i => cases y <;> first | exact old q | exact False.elim q
  | tup i => cases y <;> first | exact old q | exact False.elim q
  | _ => cases y <;> exact False.elim q
end
section
variable {X : Cx} {cs : Cs} {L : List Nat} {a : Expr} {pos : Pos} {ta : TED} {tp : TPD} {i : Nat}
/-- P.extend(e), e a list or a tuple that is looked at -/
def dExt : D → (List D → Prop) → Prop
  | .lst _ ys, Q => noOwnL ys = true ∧ Q ys
  | .tup ys, Q => noOwnL ys = true ∧ Q ys
  | _, _ => False
def pext_ (i : Nat) (tp : TPD) (ta : TED) : TSD := fun E env => tp env fun put d => ∃ xs, d = .lst true xs ∧ ta env fun x => dExt x fun ys => xs.length + ys.length ≤ sizeLine ∧ E.nx (env.set i (some (put (.lst true (xs ++ ys)))))
theorem vs_pext (h : PE X a (tBM X.K "list" (rExtG X.K) (tOfPa X.K cs i tp) (tCons (tOf X.K cs ta) tNil))) (hs : swapsWith a none pos.line X.env = pure false := by rfl) : VS X cs L (.Expr a pos) (pext_ i tp ta) :=
  ⟨fun e hl => ps_weak (ps_expr h hs) fun Dh σ H ⟨env, Z, Fs, E, rl, q, ok⟩ => ⟨e, env, Z, Fs, rl, _, q, fun u H1 Z1 put d0 d v x1 hσ hd fo ⟨xs, ex, q⟩ => by
    subst ex
    have rl1 := rl.ext x1
    obtain ⟨p, vs, rfl, t, hl1, _⟩ := rl1.foc_lstw hd hσ fo
    refine ⟨.inl ⟨rfl, vs, SqL.of t⟩, e, env, Z1, Fs, rl1, _, q, fun w H2 Z2 dx F x2 rw' z => ?_⟩
    have rl2 := rl1.ext x2
    obtain ⟨p2, vs2, e2, t2, hl2, up⟩ := rl2.foc_lstw hd hσ (fo.ext x2)
    cases e2
    rw [x2.same.at t] at t2; cases t2
    have go : ∀ (b : Addr) (ys : List D) (ws : List V) (G : List Addr), w = .ref b → (SqL X.K H2 b ws ∨ SqT X.K H2 b ws) → RL X.K cs H2 Z2 ys ws G → noOwnL ys = true → xs.length + ys.length ≤ sizeLine → E.nx (env.set i (some (put (.lst true (xs ++ ys))))) →
        rExtG X.K (.ref p) [w] H2 fun _ H' => Dh.nx σ H' := fun b ys ws G ew hb ry no hz hq => by
      subst ew
      have r0 := RL.noF0 ry no
      obtain ⟨Fs', r'⟩ := up (xs ++ ys) (vs ++ ws) [] (fun a m => by cases m) fun F' r nd' dj => ⟨F' ++ [], RL.app r r0, by rw [List.append_nil]; exact nd', fun a m => .inl (by rw [List.append_nil] at m; exact m)⟩
      exact ⟨p, b, vs, ws, rfl, rfl, x2.same.at t, hb, by rw [hl1, r0.len]; exact hz, ok.nx σ _ Z2 _ Fs' r' hq⟩
    cases dx with
    | lst m ys =>
      obtain ⟨b, ws, F', eb, tb, rb, _⟩ := R.lstv rw'
      exact go b ys ws F' eb (.inl tb) rb z.1 z.2.1 z.2.2
    | tup ys =>
      obtain ⟨b, ws, eb, tb, rb⟩ := R.tupv rw'
      exact go b ys ws F eb (.inr tb) rb z.1 z.2.1 z.2.2
    | _ => exact False.elim z⟩⟩
end
/-! ### constants of a module -/
section
variable {X : Cx} {cs : Cs} {pos : Pos} {x : Str}
theorem vt_gstr {z : Str} (hg : Gl X x) (h : ∃ t, X.mg x = some (.str z t)) (hd : (x == ("__debug__" : Str)) = false := by decide) : VT X cs (.Name x pos) (c_ (.str z)) := by
  obtain ⟨t, h⟩ := h
  exact vt_glob hg h (v := .str z) ⟨t, rfl⟩ (fun _ _ => ⟨rfl, rfl⟩) hd
theorem vt_gint {z : Int} (hg : Gl X x) (h : ∃ t, X.mg x = some (.int z t)) (hd : (x == ("__debug__" : Str)) = false := by decide) : VT X cs (.Name x pos) (c_ (.int z)) := by
  obtain ⟨t, h⟩ := h
  exact vt_glob hg h (v := .int z) ⟨t, rfl⟩ (fun _ _ => ⟨rfl, rfl⟩) hd
/-- a tuple of texts -/
def TupS (K : PySem.W.Frag) (a : Addr) (zs : List Str) : Prop := ∃ (o : Obj) (its : Array Value) (n : Nat), K.lookup a = some o ∧ o.cls = .type "tuple" ∧ o.data = .seq its n ∧ its.size ≤ sizeLine ∧ Vals (zs.map V.str) its.toList
theorem vt_gtup {zs : List Str} (hg : Gl X x) (h : ∃ a, X.mg x = some (.ref a) ∧ TupS X.K a zs) (hd : (x == ("__debug__" : Str)) = false := by decide) : VT X cs (.Name x pos) (c_ (.tup (zs.map .str))) := by
  obtain ⟨a, h, o, its, n, h1, h2, h3, h4, h5⟩ := h
  exact vt_glob hg h (v := .ref a) rfl (fun _ _ => ⟨a, zs.map .str, rfl, .inr ⟨o, its, n, h1, h2, h3, h4, h5⟩, RL.of_strs zs⟩) hd
end
end VL
set_option maxHeartbeats 2000000
namespace VL
open PySem L2 PyProof.Rows
/-! ### targets that are tuples of names -/
def setsD : List Nat → List D → Env → Env
  | i :: is, d :: ds, env => setsD is ds (env.set i (some d))
  | _, _, env => env
def gsN : List Nat → TGs
  | [] => gNil
  | i :: is => gCons (gName i) (gsN is)
theorem gsN_ok {K : PySem.W.Frag} {cs : Cs} {e : En} {H : Hp} {Z : Addr → Prop} {Q : L2.St → Hp → Prop} : ∀ {is : List Nat} {ds : List D} {vs : List V} {σ : L2.St} {env : Env} {Fs : Nat → List Addr}, RL K cs H Z ds vs [] → ds.length = is.length → (∀ p ∈ e.io, p.1 ∉ is) → Rel K cs e H Z σ env Fs →
    (∀ σ' Fs', Rel K cs e H Z σ' (setsD is ds env) Fs' → Q σ' H) → gsN is vs σ H Q
  | [], [], vs, σ, env, Fs, r, _, _, rl, k => ⟨r.1, k σ Fs rl⟩
  | [], _ :: _, _, _, _, _, _, l, _, _, _ => by simp at l
  | _ :: _, [], _, _, _, _, _, l, _, _, _ => by simp at l
  | i :: is, d :: ds, vs, σ, env, Fs, r, l, hio, rl, k => by
    obtain ⟨v, vs', F1, F2, rfl, r1, r2, e⟩ := r
    have e := List.append_eq_nil_iff.mp e.symm
    rw [e.1] at r1; rw [e.2] at r2
    obtain ⟨Fs', rl'⟩ := rl.sets (i := i) r1 List.nodup_nil (fun a m => by cases m) (fun p m w => hio p m (by rw [w]; exact List.mem_cons_self))
    exact ⟨v, vs', rfl, gsN_ok r2 (by simpa using l) (fun p m w => hio p m (List.mem_cons_of_mem _ w)) rl' k⟩
section
variable {X : Cx} {cs : Cs} {L : List Nat} {a b c iter : Expr} {pos : Pos} {ta tb : TED} {st : Stmt} {sts body : List Stmt} {t u : TSD}
def forT_ (is : List Nat) (ti : TAD) (tb : TSD) : TSD := fun E env => ti env fun ds => ∃ Pv : Nat → Env → Prop, Pv 0 env ∧
  (∀ (k : Nat) d env', ds[k]? = some d → Pv k env' → ∃ xs, d = .tup xs ∧ xs.length = is.length ∧ tb { nx := Pv (k + 1), ct := Pv (k + 1), bk := E.nx, rt := E.rt } (setsD is xs env')) ∧ ∀ env', Pv ds.length env' → E.nx env'
theorem vs_forT (is : List Nat) {tgs : List Expr} {kk : Nat} {tp : Pos} {ti : TAD} (hp : PassesOwn (model X.prog X.w) X.A X.env X.xe) (hc : X.calm = true) (hi : VI X cs (.Tuple tgs kk tp) iter ti) (hg : PGs X tgs (gsN is)) (hb : VSs X cs L body t)
    (hn : (assignEach tgs X.env).length = is.length := by rfl) (hst : (assignEach tgs X.env).findIdx? (·.1) = none := by rfl) (hL : ∀ i ∈ is, i ∉ L := by decide) (hs : ∀ y, foldedSetIterable iter X.env y = pure y := by intro _; rfl) :
    VS X cs L (.For (.Tuple tgs kk tp) iter body [] pos) (forT_ is ti t) := by
  refine ⟨fun e hl => ⟨fun pins s σ H Dh I h => ?_⟩⟩
  obtain ⟨env, Z, Fs, E, rl, q, ok⟩ := h
  have all : PS X (.For (.Tuple tgs kk tp) iter body [] pos) (tFor (tOfI X.K cs ti) (gTup X.K is.length (gsN is)) (fun D' σ' H' => ∃ gs, tSOf X.K cs { e with gs := gs ++ e.gs } t D' σ' H')) :=
    ps_for hp hc hi.run (pg_tup hc hg hn hst) ⟨fun pins s σ H Dh I ⟨gs, h⟩ => (hb.run { e with gs := gs ++ e.gs } hl).run pins s σ H Dh I h⟩ hs
  refine all.run pins s σ H Dh I ⟨e, env, Z, Fs, rl, _, q, fun J H1 Z1 srcs ds x1 hsrc ⟨G, Y, hw, hG, hY⟩ ⟨Pv, p0, turn, fin⟩ => ?_⟩
  refine for_it (g := gTup X.K is.length (gsN is)) (tb := fun D' σ' H' => ∃ gs, tSOf X.K cs { e with gs := gs ++ e.gs } t D' σ' H') hw (fun k σ' H' => ∃ env' Z' Fs', Rel X.K cs { e with gs := srcs ++ e.gs } H' Z' σ' env' Fs' ∧ Pv k env') ⟨env, Z1, Fs, (rl.ext x1).withgs hsrc, p0⟩ (fun k σ' H' _ ⟨env', Z', Fs', r, _⟩ => hG H' Z' fun q m => r.gs q (List.mem_append_left _ m)) ?_ fun σ' H' ⟨env', Z', Fs', r, h⟩ => ok.nx σ' H' Z' env' Fs' r.lessgs (fin env' h)
  rintro k y σ' H' H2 hk ⟨env', Z', Fs', r, pv⟩ hy
  obtain ⟨x2, d, hd, rd⟩ := hY k H' Z' y H2 hk (fun q m => r.gs q (List.mem_append_left _ m)) hy
  obtain ⟨xs, rfl, hx, turn⟩ := turn k d env' hd pv
  obtain ⟨ad, vs, rfl, t', rv⟩ := R.tupv rd
  have rv0 : RL X.K cs H2 Z' xs vs [] := by
    obtain ⟨_, vs2, e2, t2, r2⟩ := rd
    exact rv
  refine ⟨ad, vs, rfl, t', by rw [rv.len]; exact hx, gsN_ok (e := { e with gs := srcs ++ e.gs }) rv0 hx (fun p m w => hL _ w (hl p m)) (r.ext x2) fun σ3 Fs3 r3 => ?_⟩
  refine ⟨srcs, setsD is xs env', Z', Fs3, _, r3, turn, fun σ3 H3 Z3 env3 Fs3 r3 h => ⟨env3, Z3, Fs3, r3, h⟩, fun σ3 H3 Z3 env3 Fs3 r3 h => ok.nx σ3 H3 Z3 env3 Fs3 r3.lessgs h,
    fun σ3 H3 Z3 env3 Fs3 r3 h => ⟨env3, Z3, Fs3, r3, h⟩, fun v σ3 H3 Z3 env3 Fs3 r F r3 rr nd hF h => ok.rt v σ3 H3 Z3 env3 Fs3 r F r3.lessgs rr nd hF h⟩
/-- a, b = e -/
def unp_ (is : List Nat) (ta : TED) : TSD := fun E env => ta env fun d => ∃ xs, d = .tup xs ∧ xs.length = is.length ∧ noOwnL xs = true ∧ E.nx (setsD is xs env)
theorem vs_unp (is : List Nat) {tgs : List Expr} {kk : Nat} {tp : Pos} (hc : X.calm = true) (ha : VP X cs a ta) (hg : PGs X tgs (gsN is)) (hn : (assignEach tgs X.env).length = is.length := by rfl) (hst : (assignEach tgs X.env).findIdx? (·.1) = none := by rfl) (hL : ∀ i ∈ is, i ∉ L := by decide)
    (hs : swapsWithSole [.Tuple tgs kk tp] a pos.line X.env = pure false := by rfl) (hw : swappedStores [.Tuple tgs kk tp] a X.env = pure none := by rfl) (h1 : (assignEach [.Tuple tgs kk tp] X.env).map (·.2) = [assign (.Tuple tgs kk tp) X.env] := by rfl) : VS X cs L (.Assign [.Tuple tgs kk tp] a pos) (unp_ is ta) :=
  ⟨fun e hl => ps_weak (ps_asg ha.run (pg_tup hc hg hn hst) hs hw h1) fun D σ H ⟨env, Z, Fs, E, rl, q, ok⟩ => ⟨e, env, Z, Fs, rl, _, q, fun v H' Z' d F x r ⟨xs, ed, hx, no, z⟩ => by
    subst ed
    obtain ⟨ad, vs, rfl, t', rv⟩ := R.tupv r
    exact ⟨ad, vs, rfl, t', by rw [rv.len]; exact hx, gsN_ok (RL.noF0 rv no) hx (fun p m w => hL _ w (hl p m)) (rl.ext x) fun σ3 Fs3 r3 => ok.nx σ3 H' Z' _ Fs3 r3 z⟩⟩⟩
/-- enumerate over a list -/
def enumD (xs : List D) : List D := xs.zipIdx.map fun p => .tup [.int (p.2 : Nat), p.1]
def enum_ (ta : TED) : TAD := fun env Q => ta env fun d => match d with
  | .lst _ xs => Q (enumD (frzL xs))
  | _ => False
theorem vi_enum {tgs : List Expr} {kk : Nat} {tp p : Pos} (hg : Gl X "enumerate") (hm : X.mg "enumerate" = none) (ha : VT X cs a ta) (hs : starEach [a] X.env = (false, eval a X.env) :: starEach [] X.env := by rfl) (hs2 : starEach [a] X.env = [(false, eval a X.env)] := by rfl) : VI X cs (.Tuple tgs kk tp) (.Call (.Name "enumerate" p) [a] [] pos) (enum_ ta) := by
  refine ⟨pi_weak (pi_enum hg hm (pa_cons ha.run pa_nil hs) hs2) fun σ H Rr ⟨e, env, Z, Fs, rl, QD, q, k⟩ => ⟨e, env, Z, Fs, rl, _, q, fun v H1 Z1 d F ex r nd fre z => ?_⟩⟩
  have al := R.alloc d v F r
  have ex2 := Ext.frz rl ex al fre
  have rf : R X.K cs H1 (fun a => Z1 a ∨ a ∈ F) (frz d) v [] := R.fr (fun _ h => .inl h) d v F (fun _ m => .inr m) r
  cases d with
  | lst m xs =>
    obtain ⟨p, vs, F', rfl, t, rr, _⟩ := R.lstv rf
    have lf : (frzL xs).length = xs.length := by rw [frzL_map, List.length_map]
    have lv : vs.length = xs.length := by rw [rr.len, lf]
    have le : (enumD (frzL xs)).length = vs.length := by unfold enumD; rw [List.length_map, List.length_zipIdx, lf, lv]
    refine ⟨p, vs, rfl, t, k _ H1 _ [(frz (.lst m xs), .ref p)] (enumD (frzL xs)) ex2 (fun q mq => ?_) ⟨fun H => ∃ ys, ys.length = xs.length ∧ SqL X.K H p ys, fun i H x H' => ∃ T y, x = .ref T ∧ H T = none ∧ H' = upd H T (.tup [.int (i : Nat), y]) ∧ ∀ ys, SqL X.K H p ys → ys[i]? = some y, ?_, fun H Z q => ?_, fun i H Z x H' hi q y => ?_⟩ z⟩
    · have e : q = (frz (.lst m xs), .ref p) := by simpa using mq
      rw [e]; exact rf
    · rw [le, lv]
      refine ⟨fun i H hi ⟨ys, l, q⟩ => ⟨ys, ys[i]'(by omega), q, by simp [show i < ys.length by omega]⟩, fun H ⟨ys, l, q⟩ => ⟨ys, q, by omega⟩, fun i H x H' hi ⟨ys, l, q⟩ y => ?_⟩
      obtain ⟨T, x', h1, h2, h3, h4⟩ := y
      exact ⟨T, x', h1, h2, h3, h4⟩
    · obtain ⟨p', ws, F'', e', t', r', _⟩ := R.lstv (q (frz (.lst m xs), .ref p) (by simp))
      cases e'
      exact ⟨ws, by rw [r'.len, lf], t'⟩
    · obtain ⟨p', ws, F'', e', t', r', _⟩ := R.lstv (q (frz (.lst m xs), .ref p) (by simp))
      cases e'
      obtain ⟨T, y0, rfl, hT, rfl, hy⟩ := y
      have hx := hy ws t'
      have hi2 : i < (frzL xs).length := by rw [← r'.len]; exact (List.getElem?_eq_some_iff.mp hx).1
      have n0 : RL X.K cs H Z (frzL xs) ws [] := RL.noF0 r' (frzL_noOwn xs)
      have r0 := RL.get0 n0 (i := i) (x := (frzL xs)[i]) (by simp [hi2]) hx
      refine ⟨Ext.of (same_upd hT), .tup [.int (i : Nat), (frzL xs)[i]], ?_, fresh_tup hT ⟨_, _, [], [], rfl, ⟨rfl, rfl⟩, RL.one r0, rfl⟩⟩
      unfold enumD
      rw [List.getElem?_map, List.getElem?_zipIdx, List.getElem?_eq_getElem hi2]
      simp
  | _ => exact False.elim z
/-! ### lists changed by their methods -/
variable {tp : TPD} {i : Nat}
/-- P.insert(k, e) -/
def pins_ (i : Nat) (tp : TPD) (tk ta : TED) : TSD := fun E env => tp env fun put d => ∃ xs, d = .lst true xs ∧ xs.length < sizeLine ∧ tk env fun k => ∃ m, k = .int m ∧ 0 ≤ m ∧ m < 2 ^ 63 ∧ ta env fun x => E.nx (env.set i (some (put (.lst true (xs.take m.toNat ++ [x] ++ xs.drop m.toNat)))))
theorem RL.cut2 {K : PySem.W.Frag} {H : Hp} {Z : Addr → Prop} : ∀ (n : Nat) {xs : List D} {vs : List V} {F : List Addr}, RL K cs H Z xs vs F → ∃ F1 F2, RL K cs H Z (xs.take n) (vs.take n) F1 ∧ RL K cs H Z (xs.drop n) (vs.drop n) F2 ∧ F = F1 ++ F2
  | 0, xs, vs, F, r => ⟨[], F, ⟨by simp, rfl⟩, by simpa using r, rfl⟩
  | n + 1, [], vs, F, r => by rw [r.1, r.2]; exact ⟨[], [], ⟨rfl, rfl⟩, ⟨rfl, rfl⟩, rfl⟩
  | n + 1, x :: xs, vs, F, r => by
    obtain ⟨v, vs', F1, F2, rfl, r1, r2, rfl⟩ := r
    obtain ⟨G1, G2, h1, h2, rfl⟩ := RL.cut2 n r2
    exact ⟨F1 ++ G1, G2, ⟨v, _, F1, G1, rfl, r1, h1, rfl⟩, h2, by rw [List.append_assoc]⟩
theorem vs_pins {tk : TED} (h : PE X a (tBM X.K "list" (fun x vs H Q => ∃ (l : Addr) (xs : List V) (i : Int) (y : V), x = .ref l ∧ vs = [.int i, y] ∧ H l = some (.lst xs) ∧ xs.length < sizeLine ∧ 0 ≤ i ∧ i < 2 ^ 63 ∧ Q .non (upd H l (.lst (xs.take i.toNat ++ [y] ++ xs.drop i.toNat)))) (tOfPa X.K cs i tp) (tCons (tOf X.K cs tk) (tCons (tOfT X.K cs ta) tNil))))
    (hs : swapsWith a none pos.line X.env = pure false := by rfl) : VS X cs L (.Expr a pos) (pins_ i tp tk ta) :=
  ⟨fun e hl => ps_weak (ps_expr h hs) fun D σ H ⟨env, Z, Fs, E, rl, q, ok⟩ => ⟨e, env, Z, Fs, rl, _, q, fun u H1 Z1 put d0 d v x1 hσ hd fo ⟨xs, ex, hz, q⟩ => by
    subst ex
    have rl1 := rl.ext x1
    obtain ⟨p, vs, rfl, t, hl1, _⟩ := rl1.foc_lstw hd hσ fo
    refine ⟨.inl ⟨rfl, vs, SqL.of t⟩, e, env, Z1, Fs, rl1, _, q, fun kv Hk Zk dk Fk xk rk ⟨m, em, m0, m1, q⟩ => ?_⟩
    subst em
    cases rk.1
    have rlk := rl1.ext xk
    refine ⟨e, env, Zk, Fs, rlk, _, q, fun w H2 Z2 dx F x2 rw' nd fre z => ⟨p, vs, m, w, rfl, rfl, x2.same.at (xk.same.at t), by rw [hl1]; exact hz, m0, m1, ?_⟩⟩
    have rl2 := rlk.ext x2
    obtain ⟨p2, vs2, e2, t2, hl2, up⟩ := rl2.foc_lstw hd hσ ((fo.ext xk).ext x2)
    cases e2
    rw [x2.same.at (xk.same.at t)] at t2; cases t2
    obtain ⟨Fs', r'⟩ := up (xs.take m.toNat ++ [dx] ++ xs.drop m.toNat) (vs.take m.toNat ++ [w] ++ vs.drop m.toNat) F (rlk.newto rw' fre) fun F' r nd' dj => by
      obtain ⟨G1, G2, h1, h2, rfl⟩ := RL.cut2 m.toNat r
      have n := List.nodup_append.mp nd'
      refine ⟨G1 ++ F ++ G2, RL.app (RL.app h1 (RL.one rw')) h2, List.nodup_append.mpr ⟨List.nodup_append.mpr ⟨n.1, nd, fun a m b k e => ?_⟩, n.2.1, fun a m b k e => ?_⟩, fun a m => ?_⟩
      · subst e; exact dj a (List.mem_append_left _ m) k
      · subst e
        rcases List.mem_append.mp m with m | m
        · exact n.2.2 a m a k rfl
        · exact dj a (List.mem_append_right _ k) m
      · simp only [List.mem_append] at m ⊢
        rcases m with (m | m) | m
        · exact .inl (.inl m)
        · exact .inr m
        · exact .inl (.inr m)
    exact ok.nx σ _ Z2 _ Fs' r' z⟩⟩
/-- P.remove(k), a list of ints -/
def prem_ (i : Nat) (tp : TPD) (ta : TED) : TSD := fun E env => tp env fun put d => ∃ ns : List Int, d = .lst true (ns.map .int) ∧ ta env fun x => ∃ k, x = .int k ∧ k ∈ ns ∧ E.nx (env.set i (some (put (.lst true ((ns.erase k).map .int)))))
theorem erase_at : ∀ {ns : List Int} {k : Int}, k ∈ ns → ∃ j, ns[j]? = some k ∧ (∀ m : Nat, m < j → ns[m]? ≠ some k) ∧ ns.eraseIdx j = ns.erase k
  | [], _, h => by cases h
  | n :: ns, k, h => by
    by_cases e : n = k
    · subst e
      exact ⟨0, rfl, fun m h => absurd h (Nat.not_lt_zero _), by simp⟩
    · have h' : k ∈ ns := (List.mem_cons.mp h).resolve_left fun w => e w.symm
      obtain ⟨j, h1, h2, h3⟩ := erase_at h'
      refine ⟨j + 1, by simpa using h1, fun m hm => ?_, by rw [List.eraseIdx_cons_succ, h3, List.erase_cons_tail (by simpa using e)]⟩
      cases m with
      | zero => simpa using e
      | succ m => simpa using h2 m (by omega)
theorem vs_prem (h : PE X a (tBM X.K "list" rRemI (tOfPa X.K cs i tp) (tCons (tOf X.K cs ta) tNil))) (hs : swapsWith a none pos.line X.env = pure false := by rfl) : VS X cs L (.Expr a pos) (prem_ i tp ta) :=
  ⟨fun e hl => ps_weak (ps_expr h hs) fun D σ H ⟨env, Z, Fs, E, rl, q, ok⟩ => ⟨e, env, Z, Fs, rl, _, q, fun u H1 Z1 put d0 d v x1 hσ hd fo ⟨ns, ex, q⟩ => by
    subst ex
    have rl1 := rl.ext x1
    obtain ⟨p, vs, rfl, t, hl1, _⟩ := rl1.foc_lstw hd hσ fo
    refine ⟨.inl ⟨rfl, vs, SqL.of t⟩, e, env, Z1, Fs, rl1, _, q, fun w H2 Z2 dx F x2 rw' ⟨k, ek, mk, z⟩ => ?_⟩
    subst ek
    cases rw'.1
    have rl2 := rl1.ext x2
    obtain ⟨Fe, re⟩ := (fo.ext x2).here
    obtain ⟨p3, vs3, F3, e3, t3, r3, _⟩ := re
    cases e3
    obtain ⟨p2, vs2, e2, t2, hl2, up⟩ := rl2.foc_lstw hd hσ (fo.ext x2)
    cases e2
    have t4 := x2.same.at t
    rw [t4] at t2; cases t2
    rw [t4] at t3; cases t3
    have ev := RL.ints r3
    subst ev
    obtain ⟨j, j1, j2, j3⟩ := erase_at mk
    refine ⟨p, ns, k, j, rfl, rfl, t4, j1, j2, ?_⟩
    rw [j3]
    obtain ⟨Fs', r'⟩ := up ((ns.erase k).map .int) ((ns.erase k).map .int) [] (fun a m => by cases m) fun F' r nd' dj => ⟨[], RL.of_ints _, List.nodup_nil, fun a m => by cases m⟩
    exact ok.nx σ _ Z2 _ Fs' r' z⟩⟩
/-- P.m() that makes the list another one of the same things -/
def pm0_ (i : Nat) (tp : TPD) (ok : List D → Prop) (f : List D → List D) : TSD := fun E env => tp env fun put d => ∃ xs, d = .lst true xs ∧ ok xs ∧ E.nx (env.set i (some (put (.lst true (f xs)))))
theorem vs_pm0 {r : V → List V → Hp → VK → Prop} {okD : List D → Prop} {f : List D → List D} (g : List V → List V) (hr : ∀ l (vs : List V) (xs : List D) H (Q : VK), vs.length = xs.length → okD xs → H l = some (.lst vs) → (∀ v, Q v (upd H l (.lst (g vs)))) → r (.ref l) [] H Q)
    (hf : ∀ (H : Hp) (Z : Addr → Prop) (xs : List D) (vs : List V) F, RL X.K cs H Z xs vs F → F.Nodup → ∃ F'', RL X.K cs H Z (f xs) (g vs) F'' ∧ F''.Nodup ∧ ∀ a ∈ F'', a ∈ F)
    (h : PE X a (tBM0 X.K "list" r (tOfPa X.K cs i tp))) (hs : swapsWith a none pos.line X.env = pure false := by rfl) : VS X cs L (.Expr a pos) (pm0_ i tp okD f) :=
  ⟨fun e hl => ps_weak (ps_expr h hs) fun D σ H ⟨env, Z, Fs, E, rl, q, ok⟩ => ⟨e, env, Z, Fs, rl, _, q, fun u H1 Z1 put d0 d v x1 hσ hd fo ⟨xs, ex, hx, z⟩ => by
    subst ex
    have rl1 := rl.ext x1
    obtain ⟨p, vs, rfl, t, hl1, up⟩ := rl1.foc_lstw hd hσ fo
    refine ⟨.inl ⟨rfl, vs, SqL.of t⟩, hr p vs xs H1 _ hl1 hx t fun _ => ?_⟩
    obtain ⟨Fs', r'⟩ := up (f xs) (g vs) [] (fun a m => by cases m) fun F' r nd' dj => by
      obtain ⟨F'', h1, h2, h3⟩ := hf H1 Z1 xs vs F' r nd'
      exact ⟨F'', h1, h2, fun a m => .inl (h3 a m)⟩
    exact ok.nx σ _ Z1 _ Fs' r' z⟩⟩
theorem RL.rev {K : PySem.W.Frag} {H : Hp} {Z : Addr → Prop} : ∀ {xs : List D} {vs : List V} {F : List Addr}, RL K cs H Z xs vs F → F.Nodup → ∃ F'', RL K cs H Z xs.reverse vs.reverse F'' ∧ F''.Nodup ∧ ∀ a, a ∈ F'' ↔ a ∈ F
  | [], vs, F, r, nd => by rw [r.1, r.2]; exact ⟨[], ⟨rfl, rfl⟩, List.nodup_nil, fun a => Iff.rfl⟩
  | x :: xs, vs, F, r, nd => by
    obtain ⟨v, vs', F1, F2, rfl, r1, r2, rfl⟩ := r
    have n := List.nodup_append.mp nd
    obtain ⟨G, g1, g2, g3⟩ := RL.rev r2 n.2.1
    rw [List.reverse_cons, List.reverse_cons]
    refine ⟨G ++ F1, RL.app g1 (RL.one r1), List.nodup_append.mpr ⟨g2, n.1, fun a m b k e => ?_⟩, fun a => ?_⟩
    · subst e; exact n.2.2 a k a ((g3 a).mp m) rfl
    · simp only [List.mem_append, g3]; exact Or.comm
theorem RL.dl {K : PySem.W.Frag} {H : Hp} {Z : Addr → Prop} {xs : List D} {vs : List V} {F : List Addr} (r : RL K cs H Z xs vs F) (nd : F.Nodup) : ∃ F'', RL K cs H Z xs.dropLast vs.dropLast F'' ∧ F''.Nodup ∧ ∀ a ∈ F'', a ∈ F := by
  obtain ⟨F1, F2, h1, h2, rfl⟩ := RL.cut2 (xs.length - 1) r
  refine ⟨F1, ?_, (List.nodup_append.mp nd).1, fun a m => List.mem_append_left _ m⟩
  rw [List.dropLast_eq_take, List.dropLast_eq_take, r.len]
  exact h1
abbrev prev_ (i : Nat) (tp : TPD) : TSD := pm0_ i tp (fun _ => True) List.reverse
theorem vs_prev (h : PE X a (tBM0 X.K "list" rReverse (tOfPa X.K cs i tp))) (hs : swapsWith a none pos.line X.env = pure false := by rfl) : VS X cs L (.Expr a pos) (prev_ i tp) :=
  vs_pm0 List.reverse (fun l vs xs H Q _ _ h q => ⟨l, vs, rfl, rfl, h, q .non⟩) (fun H Z xs vs F r nd => by
    obtain ⟨G, h1, h2, h3⟩ := RL.rev r nd
    exact ⟨G, h1, h2, fun a m => (h3 a).mp m⟩) h hs
abbrev pclr_ (i : Nat) (tp : TPD) : TSD := pm0_ i tp (fun _ => True) fun _ => []
theorem vs_pclr (h : PE X a (tBM0 X.K "list" rClear (tOfPa X.K cs i tp))) (hs : swapsWith a none pos.line X.env = pure false := by rfl) : VS X cs L (.Expr a pos) (pclr_ i tp) :=
  vs_pm0 (fun _ => []) (fun l vs xs H Q _ _ h q => ⟨l, vs, rfl, rfl, h, q .non⟩) (fun H Z xs vs F r nd => ⟨[], ⟨rfl, rfl⟩, List.nodup_nil, fun a m => by cases m⟩) h hs
abbrev ppop_ (i : Nat) (tp : TPD) : TSD := pm0_ i tp (fun xs => xs ≠ []) List.dropLast
theorem vs_ppop (h : PE X a (tBM0 X.K "list" rPop (tOfPa X.K cs i tp))) (hs : swapsWith a none pos.line X.env = pure false := by rfl) : VS X cs L (.Expr a pos) (ppop_ i tp) :=
  vs_pm0 List.dropLast (fun l vs xs H Q hl hx h q => by
    have : 0 < vs.length := by rw [hl]; exact List.length_pos_iff.mpr hx
    exact ⟨l, vs, vs[vs.length - 1], rfl, rfl, h, List.getElem?_eq_getElem (by omega), q _⟩) (fun H Z xs vs F r nd => RL.dl r nd) h hs
/-- x += e, numbers -/
def aug_ (i : Nat) (ta : TED) : TSD := fun E env => ∃ k, env[i]? = some (some (.int k)) ∧ ta env fun d => ∃ j, d = .int j ∧ E.nx (env.set i (some (.int (k + j))))
theorem vs_aug (i : Nat) {x : Str} {pos' : Pos} (ha : VP X cs a ta) (hN : X.N.Nodup) (hi : X.N[i]? = some x := by rfl) (hx : Loc X.env.scope x := by first | exact .inl rfl | exact .inr rfl) (hL : i ∉ L := by decide)
    (hf : X.fn x = true ∨ X.env.scope.names.lookup x = some .local := by first | exact .inl rfl | exact .inr rfl | assumption) : VS X cs L (.AugAssign (.Name x pos') .Add a pos) (aug_ i ta) :=
  ⟨fun e hl => ps_weak (ps_aug hN hi hx ha.run ip_add hf) fun D σ H ⟨env, Z, Fs, E, rl, ⟨k, hk, q⟩, ok⟩ => by
    obtain ⟨v, h1, h2⟩ := rl.slot i _ hk
    cases h2.1
    refine ⟨_, h1, e, env, Z, Fs, rl, _, q, fun w H1 Z1 d F x1 r ⟨j, ed, z⟩ => ?_⟩
    subst ed
    cases r.1
    refine ⟨k, j, rfl, rfl, ?_⟩
    obtain ⟨Fs', rl'⟩ := (rl.ext x1).sets (i := i) (d := .int (k + j)) (v := .int (k + j)) ⟨rfl, rfl⟩ List.nodup_nil (fun a m => by cases m) fun p m w => hL (w ▸ hl p m)
    exact ok.nx _ H1 Z1 _ Fs' rl' z⟩
/-! ### list(range(..)); sorted(.., reverse=True) -/
def rgI (a b : Int) : List Int := (List.range (b - a).toNat).map fun i => a + (i : Nat)
def rgOk (a b : Int) : Prop := -(2 ^ 62) ≤ a ∧ a < 2 ^ 62 ∧ -(2 ^ 62) ≤ b ∧ b < 2 ^ 62 ∧ (b - a).toNat ≤ 2 ^ 24
theorem rgV_eq (a b : Int) : rgV a b = (rgI a b).map .int := by unfold rgV rgI; rw [List.map_map]; rfl
def lrg1_ (ta : TED) : TED := fun env Q => ta env fun d => match d with | .int j => rgOk 0 j ∧ Q (.lst true ((rgI 0 j).map .int)) | _ => False
def lrg2_ (ta tb : TED) : TED := fun env Q => ta env fun d => tb env fun e => match d, e with | .int i, .int j => rgOk i j ∧ Q (.lst true ((rgI i j).map .int)) | _, _ => False
theorem vt_lrg1 {p q ps2 : Pos} (hc : X.calm = true) (hg : Gl X "list") (hm : X.mg "list" = none) (hg2 : Gl X "range") (hm2 : X.mg "range" = none) (ha : VP X cs a ta) (na : starEach [a] X.env = (false, eval a X.env) :: starEach [] X.env := by rfl)
    (nb : starEach [.Call (.Name "range" q) [a] [] ps2] X.env = (false, eval (.Call (.Name "range" q) [a] [] ps2) X.env) :: starEach [] X.env := by rfl) : VT X cs (.Call (.Name "list" p) [.Call (.Name "range" q) [a] [] ps2] [] pos) (lrg1_ ta) :=
  ⟨pe_weak (pe_listRg hc hg hm (prg_1 hg2 hm2 ha.run na) nb) fun σ H Q ⟨e, env, Z, Fs, rl, QD, q, k⟩ => ⟨e, env, Z, Fs, rl, _, q, fun v H1 Z1 d F x r z => by
    cases d with
    | int j =>
      cases r.1
      obtain ⟨ok, z⟩ := z
      refine ⟨j, rfl, ok, fun l hl => ?_⟩
      rw [rgV_eq]
      exact fin_lst (rl.ext x).za (fun u H' Z' d F' y r nd fre qd => k u H' Z' d F' (x.trans y) r nd (fun a m => ⟨x.same.free (fre a m).1, (fre a m).2⟩) qd) hl (RL.of_ints _) z
    | _ => exact False.elim z⟩⟩
theorem vt_lrg2 {p q ps2 : Pos} (hc : X.calm = true) (hg : Gl X "list") (hm : X.mg "list" = none) (hg2 : Gl X "range") (hm2 : X.mg "range" = none) (ha : VP X cs a ta) (hb : VP X cs b tb) (na : starEach [a, b] X.env = (false, eval a X.env) :: starEach [b] X.env := by rfl)
    (nb : starEach [b] X.env = (false, eval b X.env) :: starEach [] X.env := by rfl) (hp : (backTo ps2 (starEach [b] X.env)).any (·.1) = false := by rfl)
    (nc : starEach [.Call (.Name "range" q) [a, b] [] ps2] X.env = (false, eval (.Call (.Name "range" q) [a, b] [] ps2) X.env) :: starEach [] X.env := by rfl) : VT X cs (.Call (.Name "list" p) [.Call (.Name "range" q) [a, b] [] ps2] [] pos) (lrg2_ ta tb) :=
  ⟨pe_weak (pe_listRg hc hg hm (prg_2 hg2 hm2 ha.run hb.run na nb hp) nc) fun σ H Q ⟨e, env, Z, Fs, rl, QD, q, k⟩ => ⟨e, env, Z, Fs, rl, _, q, fun v H1 Z1 d F x r q1 => ⟨e, env, Z1, Fs, rl.ext x, _, q1, fun w H2 Z2 d2 G x2 r2 z => by
    cases d with
    | int i =>
      cases d2 with
      | int j =>
        cases r.1; cases r2.1
        obtain ⟨ok, z⟩ := z
        refine ⟨i, j, rfl, rfl, ok, fun l hl => ?_⟩
        rw [rgV_eq]
        have xx := x.trans x2
        exact fin_lst (rl.ext xx).za (fun u H' Z' d F' y r nd fre qd => k u H' Z' d F' (xx.trans y) r nd (fun a m => ⟨xx.same.free (fre a m).1, (fre a m).2⟩) qd) hl (RL.of_ints _) z
      | _ => exact False.elim z
    | _ => exact False.elim z⟩⟩⟩
def dSortR (b : Bool) (d : D) (Q : D → Prop) : Prop := ∃ m ns, d = .lst m (ns.map .int) ∧ ∀ ns' : List Int, ns'.Perm ns → (if b then ns'.Pairwise (· ≥ ·) else ns'.Pairwise (· ≤ ·)) → Q (.lst true (ns'.map .int))
theorem vt_sortR {v : Bool} {p : Pos} {kp kp2 : Pos} {j : Nat} (hg : Gl X "sorted") (hm : X.mg "sorted" = none) (ha : VP X cs a ta)
    (he : backTo pos (starEach [a] X.env) = (false, eval a X.env) :: backTo pos (starEach [] X.env) := by rfl) (hpl : (backTo pos (starEach [a] X.env)).any (·.1) = false := by rfl) (hs : starEach [a] X.env = (false, eval a X.env) :: starEach [] X.env := by rfl)
    (hall : (backToKw pos (keywordEach [⟨some "reverse", .Constant (.bool v) j kp, kp2⟩] X.env)).all (·.1.isSome) = true := by rfl) (hnone : (backToKw pos (keywordEach [⟨some "reverse", .Constant (.bool v) j kp, kp2⟩] X.env)).any (·.1.isNone) = false := by rfl)
    (hks : (backToKw pos (keywordEach [⟨some "reverse", .Constant (.bool v) j kp, kp2⟩] X.env)).filterMap (·.1) = [Str.ofString "reverse"] := by rfl) :
    VT X cs (.Call (.Name "sorted" p) [a] [⟨some "reverse", .Constant (.bool v) j kp, kp2⟩] pos) (un_ (dSortR v) ta) :=
  ⟨pe_weak (pe_callBK (cr_sortedRev (b := v)) hg hm boot_more.2.2.2.2.1 (pa_cons ha.run pa_nil hs) (pk_cons pe_bl pk_nil) (by decide) (by decide) he hpl hall hnone hks) fun σ H Q ⟨e, env, Z, Fs, rl, QD, q, k⟩ => ⟨e, env, Z, Fs, rl, _, q, fun w H1 Z1 d F x r z => by
    obtain ⟨m, ns, rfl, z⟩ := z
    obtain ⟨p, ws, F', rfl, t, rr, _⟩ := R.lstv r
    rw [RL.ints rr] at t
    exact ⟨p, ns, rfl, rfl, t, fun ns' q hp ho hn => fin_lst (rl.ext x).za (fun u H' Z' d F' y r nd fre qd => k u H' Z' d F' (x.trans y) r nd (fun a m => ⟨x.same.free (fre a m).1, (fre a m).2⟩) qd) hn (RL.of_ints ns') (z ns' hp ho)⟩⟩⟩
end
end VL
set_option maxHeartbeats 2000000
namespace VL
open PySem L2 PyProof.Rows
section
variable {X : Cx} {cs : Cs} {a b : Expr} {pos : Pos} {ta tb : TED}
/-! ### methods of texts with one argument -/
def OS (K : PySem.W.Frag) (cs : Cs) (r : V → List V → Hp → VK → Prop) (f : Str → D → (D → Prop) → Prop) : Prop :=
  ∀ (H : Hp) (Z : Addr → Prop) (Q : VK) (QD : D → Prop) (s : Str) (y : D) (w : V) (G : List Addr), (∀ a, Z a → ∃ o, H a = some o) → R K cs H Z y w G → f s y QD → Fin K cs H Z Q QD → r (.str s) [w] H Q
def sm1_ (f : Str → D → (D → Prop) → Prop) (ta tb : TED) : TED := fun env Q => ta env fun x => match x with
  | .str s => tb env fun y => f s y Q
  | _ => False
theorem vt_sm1 {id : String} {name : Str} {apos : Pos} {r : V → List V → Hp → VK → Prop} {f : Str → D → (D → Prop) → Prop} (slot : Slot "str" name id) (ty : typeOf (.builtin id) = pure (.type "method_descriptor")) (rule : MtR X id r) (hf : OS X.K cs r f) (ha : VP X cs a ta) (hb : VP X cs b tb)
    (hs : starEach [b] X.env = [(false, eval b X.env)] := by rfl) (hbase : attributeBase a name X.env (eval a X.env) = eval a X.env := by rfl) (hline : (apos.endLine == pos.line) = true := by rfl) :
    VT X cs (.Call (.Attribute a name apos) [b] [] pos) (sm1_ f ta tb) :=
  ⟨pe_weak (pe_m1 slot ty rule ha.run hb.run hs hbase hline) fun σ H Q ⟨e, env, Z, Fs, rl, QD, q, k⟩ => ⟨e, env, Z, Fs, rl, _, q, fun v H1 Z1 d F x1 rv q1 => by
    cases d with
    | str s =>
      cases rv.1
      refine ⟨⟨s, rfl⟩, e, env, Z1, Fs, rl.ext x1, _, q1, fun w H2 Z2 d2 G x2 rw q2 => ?_⟩
      have xx := x1.trans x2
      exact hf H2 Z2 Q QD s d2 w G (rl.ext xx).za rw q2 fun u H' Z' d F' y r nd fre qd => k u H' Z' d F' (xx.trans y) r nd (fun a m => ⟨xx.same.free (fre a m).1, (fre a m).2⟩) qd
    | _ => exact False.elim q1⟩⟩
def dSplit (s : Str) (y : D) (Q : D → Prop) : Prop := ∃ b, y = .str b ∧ (b.length == 0) = false ∧ s.length + 2 ≤ sizeLine ∧ Q (.lst true ((Txt.split s b).map .str))
theorem os_split {K : PySem.W.Frag} : OS K cs (fun x xs H Q => ∃ a b, x = .str a ∧ xs = [.str b] ∧ (b.length == 0) = false ∧ a.length + 2 ≤ sizeLine ∧ rNewStrs (Txt.split a b) H Q) dSplit := by
  intro H Z Q QD s y w G za r q k
  obtain ⟨b, rfl, h1, h2, q⟩ := q
  cases r.1
  exact ⟨s, b, rfl, rfl, h1, h2, fun p hp => fin_lst za k hp (RL.of_strs _) q⟩
def dPart (s : Str) (y : D) (Q : D → Prop) : Prop := ∃ b, y = .str b ∧ (b.length == 0) = false ∧ s.length ≤ sizeLine ∧ Q (.tup [.str (Txt.partition s b).1, .str (Txt.partition s b).2.1, .str (Txt.partition s b).2.2])
theorem os_part {K : PySem.W.Frag} : OS K cs (fun x xs H Q => ∃ a b, x = .str a ∧ xs = [.str b] ∧ (b.length == 0) = false ∧ a.length ≤ sizeLine ∧ ∀ p, H p = none → Q (.ref p) (upd H p (.tup [.str (Txt.partition a b).1, .str (Txt.partition a b).2.1, .str (Txt.partition a b).2.2]))) dPart := by
  intro H Z Q QD s y w G za r q k
  obtain ⟨b, rfl, h1, h2, q⟩ := q
  cases r.1
  exact ⟨s, b, rfl, rfl, h1, h2, fun p hp => fin_tup k hp (RL.of_strs [_, _, _]) q⟩
def dJoin (s : Str) (y : D) (Q : D → Prop) : Prop := ∃ ys : List Str, ((∃ m, y = .lst m (ys.map .str)) ∨ y = .tup (ys.map .str)) ∧ (ys.map (·.length)).sum + ys.length * s.length ≤ 16777216 ∧ Q (.str (Txt.join s ys))
theorem os_join {K : PySem.W.Frag} : OS K cs (fun x xs H Q => ∃ a p, ∃ ys : List Str, x = .str a ∧ xs = [.ref p] ∧ (SqL K H p (ys.map V.str) ∨ SqT K H p (ys.map V.str)) ∧ (ys.map (·.length)).sum + ys.length * a.length ≤ 16777216 ∧ Q (.str (Txt.join a ys)) H) dJoin := by
  intro H Z Q QD s y w G za r q k
  obtain ⟨ys, hy, h1, q⟩ := q
  rcases hy with ⟨m, rfl⟩ | rfl
  · obtain ⟨a, ws, F', rfl, t, rr, _⟩ := R.lstv r
    rw [RL.strs rr] at t
    exact ⟨s, a, ys, rfl, rfl, .inl t, h1, fin_at (d := .str _) k ⟨rfl, rfl⟩ q⟩
  · obtain ⟨a, ws, rfl, t, rr⟩ := R.tupv r
    rw [RL.strs rr] at t
    exact ⟨s, a, ys, rfl, rfl, .inr t, h1, fin_at (d := .str _) k ⟨rfl, rfl⟩ q⟩
end
/-- a call without arguments -/
theorem vt_fn0 {X : Cx} {cs : Cs} {s : SpD} {k : Nat} {ps : List Str} {x : Str} {p pos : Pos} (h : Kn X.prog X.w X.K X.mg X.base cs x k ps s) (hr : Room k X.A) (hg : Gl X x) (hdb : (x == ("__debug__" : Str)) = false := by decide) : VT X cs (.Call (.Name x p) [] [] pos) (callD s nil_) := by
  obtain ⟨f, fd, F, hm, hk, hb⟩ := h.ex
  refine ⟨pe_weak (pe_call0 F hr hg hm hk hb .nil pass0 hdb) fun σ H Q ⟨e, env, Z, Fs, rl, QD, q, k⟩ => ?_⟩
  refine ⟨rl.tb, Z, [], rl.za, ⟨rfl, rfl⟩, _, q, fun v H2 Z2 r F x2 rr nd fre ⟨c, q2⟩ => k v H2 Z2 r F x2 rr nd fre q2⟩
/-! ### one sign in a text -/
theorem hasS_sign (z : Str) (c : Nat) : hasS z ⟨#[c]⟩ = decide (c ∈ z.cps.toList) := PySem.StrLaws.found_one z c
end VL
set_option maxHeartbeats 2000000
namespace VL
open PySem L2 LamX NdefX PyProof.Rows
/-! ### a lambda is made -/
section
variable {X : Cx} {cs : Cs} {pins : List (Addr × Obj)} {σ : L2.St} {H : Hp} {s : Shared}
abbrev lamQ (X : Cx) : Str := X.env.qual ++ "<lambda>"
/-- what the making of a lambda asks of the def -/
structure LamT (X : Cx) (cs : Cs) : Prop where
  ex : ∃ c P, TabB X.base X.mg c P ∧ X.env.code = .ref c ∧ (P, lamQ X) ∈ cs.tb ∧ ∀ p ∈ cs.tb, p.1 = P → p.2 = lamQ X
theorem new_nofr (I : Inv X pins σ H s) {f : Addr} (h : s.heap.objs.size ≤ f) : f ∉ frs X.stack := by
  intro m
  rcases List.mem_cons.mp (I.stkSub f m) with e | m
  · have q := I.lt
    rw [e] at h
    exact absurd (Nat.lt_of_lt_of_le q h) (Nat.lt_irrefl _)
  · exact I.nofs h m
theorem lam_new {params : Arguments} {body : Expr} {scope : Scope} {pos : Pos} {E Q : Value → Shared → Prop} (I : Inv X pins σ H s) (L : LamT X cs) (hT : Tabs cs.tb H) (hd : defaultsOf params X.env = ([], [])) (hfree : ∀ y ∈ scope.names, y.2 = .free → ∃ c, X.env.cells.lookup y.1 = some c)
    (h : ∀ (f c' : Addr) (pm ctv : Value) (H1 : Hp) (s' : Shared), Inv X pins σ H1 s' → Sm cs H H1 → s.heap.objs.size ≤ s'.heap.objs.size → s'.heap.get? f = some (PySem.W.kla_obj "<lambda>" (lamQ X) params body scope (cloFrom X.env.cells scope.names []) pm c' ctv) → H1 f = none → s.heap.objs.size ≤ f → H1 c' = some (CodeO c' (lamQ X)) → (∀ b o, H1 b = none → s.heap.get? b = some o → H b = none) → Q (.ref f) s') :
    wpAny (model X.prog X.w) X.A (eval (.Lambda params body scope pos) X.env) Q E s := by
  obtain ⟨c, P, tb, hc, hm, hu⟩ := L.ex
  obtain ⟨ps, hP, tr, known⟩ := hT _ hm
  have bi : s.heap.BuiltinsAt X.mg P := tb.bm.keeps I.bk
  have atP : s.heap.get? P = some { cls := .none, data := .fields ps } := I.hok P _ hP
  refine PySem.W.kla_eval hd ?_
  cases hit : codeAmong pos ps.toList with
  | some cv =>
    obtain ⟨c', e, hco⟩ := known pos cv hit
    subst e
    refine PySem.W.kla_makeFunctionHit (mg := X.mg) (c := c) (P := P) (ps := ps) (closure_ok hfree) I.ok.glob (I.mod.glob.keeps I.bk) hc (tb.code.keeps I.bk) atP tr hit bi fun ctv g tk up sz => ?_
    have up2 : ∀ b o, s.heap.get? b = some o → (g.push (PySem.W.kla_obj "<lambda>" (lamQ X) params body scope (cloFrom X.env.cells scope.names []) ((X.mg "__name__").getD .none) c' ctv)).get? b = some o := fun b o e => Heap.get?_push_of_some _ (up b o e)
    refine h g.objs.size c' ((X.mg "__name__").getD .none) ctv H _ (I.kept (t' := tk) up2) (Sm.refl H) ?_ (Heap.get?_push_size _ rfl) (I.hok.fresh sz) sz hco fun b o n _ => n
    show s.heap.objs.size ≤ (g.push _).objs.size
    rw [Heap.size_push]; omega
  | none =>
    refine PySem.W.kla_makeFunction (mg := X.mg) (c := c) (P := P) (ps := ps) (closure_ok hfree) I.ok.glob (I.mod.glob.keeps I.bk) hc (tb.code.keeps I.bk) atP tr hit tb.gP bi fun c' ctv g tk eb ge lt rc tab => ?_
    obtain ⟨c2, oc, vs, t, e2, hoc, hd', hv⟩ := rc
    cases e2
    have n1 : H c' = none := I.hok.fresh ge
    have ge2 : s.heap.objs.size ≤ g.objs.size := by omega
    have I1 := inv_table (t' := tk) (more := #[rawInt pos.line, rawInt pos.col, .ref c']) (h' := g.push (PySem.W.kla_obj "<lambda>" (lamQ X) params body scope (cloFrom X.env.cells scope.names []) ((X.mg "__name__").getD .none) c' ctv)) I hP
      (fun b o hb e => Heap.get?_push_of_some _ (eb b o hb e)) (Heap.get?_push_of_some _ tab) ge ⟨oc, vs, t, Heap.get?_push_of_some _ hoc, hd', hv⟩
    have nP : ∀ b u, H b = some u → NT u → b ≠ P := fun b u e n z => by
      subst z
      rw [hP] at e; cases e
      exact n _ rfl
    have kp : ∀ b u, H b = some u → NT u → upd (upd H P (.tbl (ps ++ #[rawInt pos.line, rawInt pos.col, .ref c']))) c' (CodeO c' (lamQ X)) b = some u := fun b u e n => by
      rw [upd_ne (ne_of_none e n1), upd_ne (nP b u e n)]; exact e
    have ntC : ∀ c q, NT (CodeO c q) := fun c q _ z => by unfold CodeO at z; cases z
    have sm : Sm cs H (upd (upd H P (.tbl (ps ++ #[rawInt pos.line, rawInt pos.col, .ref c']))) c' (CodeO c' (lamQ X))) := by
      refine ⟨kp, fun b u e => ?_, fun tt p hp => ?_⟩
      · by_cases hb : b = P
        · exact ⟨_, by rw [hb, upd_ne (ne_of_none hP n1)]; exact upd_same⟩
        · exact ⟨u, by rw [upd_ne (ne_of_none e n1), upd_ne hb]; exact e⟩
      · by_cases hb : p.1 = P
        · rw [hu p hp hb, hb]
          have el : (ps ++ #[rawInt pos.line, rawInt pos.col, .ref c']).toList = ps.toList ++ [rawInt pos.line, rawInt pos.col, .ref c'] := by simp
          refine ⟨_, by rw [upd_ne (ne_of_none hP n1)]; exact upd_same, by rw [el]; exact PySem.TriplesOk_snoc _ _ _ _ tr, fun q cv hcv => ?_⟩
          rw [el] at hcv
          rcases among_app _ tr hcv with z | z
          · obtain ⟨c0, e1, e2⟩ := known q cv z
            exact ⟨c0, e1, kp _ _ e2 (ntC _ _)⟩
          · exact ⟨c', z, upd_same⟩
        · obtain ⟨qs, a1, a2, a3⟩ := tt p hp
          refine ⟨qs, by rw [upd_ne (ne_of_none a1 n1), upd_ne hb]; exact a1, a2, fun q cv hcv => ?_⟩
          obtain ⟨c0, e1, e2⟩ := a3 q cv hcv
          exact ⟨c0, e1, kp _ _ e2 (ntC _ _)⟩
    refine h g.objs.size c' ((X.mg "__name__").getD .none) ctv _ _ I1 sm ?_ (Heap.get?_push_size _ rfl) ?_ ge2 upd_same fun b o n e => ?_
    · show s.heap.objs.size ≤ (g.push _).objs.size
      rw [Heap.size_push]; omega
    · rw [upd_ne (Nat.ne_of_gt lt), upd_ne (Nat.ne_of_gt (Nat.lt_of_lt_of_le (Heap.lt_size atP) ge2))]
      exact I.hok.fresh ge2
    · cases q : H b with
      | none => rfl
      | some u =>
        obtain ⟨u', w⟩ := sm.there b u q
        rw [n] at w; cases w
end
/-! ### and called -/
section
variable {X : Cx} {cs : Cs} {pins : List (Addr × Obj)} {σ : L2.St} {HZ : Hp} {s1 : Shared}
theorem lam_run {k : Nat} {N ps fr : List Str} {params : Arguments} {body : Expr} {scope : Scope} {cl : List (Str × Addr)} {js : List Nat} {pm ctv : Value} {f c' : Addr} {q : Str} {us : List Value} {vs : List V} {tb : TE} {A : Around} {Q : VK} {R : Value → Shared → Prop}
    (S : NScope N ps fr scope) (hbind : bindArgs (PySem.W.kla_fn "<lambda>" q params body scope cl pm (.ref c') ctv) ⟨us, []⟩ = pure (ps.zip us)) (I1 : Inv X pins σ HZ s1) (of1 : s1.heap.get? f = some (PySem.W.kla_obj "<lambda>" q params body scope cl pm c' ctv)) (hc : HZ c' = some (CodeO c' q)) (C : Caps X cl fr js)
    (e0 : Env0 X.prog X.w X.K X.mg X.base A X.stack s1 HZ) (hr : Room (k + 1) A) (hl : vs.length = ps.length) (r : Vals vs us)
    (hbody : ∀ (A : Around), Room k (A.deeper (envF ⟨"<lambda>", q, params, [], scope, cl, c'⟩ f s1.heap.objs.size)) → PE (ncx CX0 X.prog X.w X.K X.mg X.base N ⟨"<lambda>", q, params, [], scope, cl, c'⟩ f A X.stack s1 HZ E0) body tb)
    (ht : tb (startF N vs (js.map (slotAt σ))) HZ Q) (fin : ∀ u s', CE X.stack X.prog X.w HZ s1 Q u s' → R u s') : wpAny (model X.prog X.w) A (call (.ref f) us) R (fun _ _ => False) s1 := by
  obtain ⟨⟨oc, ws, t, hoc, hdc, hvc⟩, _, _⟩ := I1.hok c' _ hc
  have rc : codeAny (model X.prog X.w) A (.call (.ref f) ⟨us, []⟩) (CR CX0 X.stack X.prog X.w HZ s1 Q E0) s1 := by
    refine PySem.W.kla_callFunE hr.depth of1 rfl S.co S.gen rfl ⟨c', oc, ws, t, rfl, hoc, hdc, hvc⟩ ?_
    rw [hbind]
    refine wpAny_pure (wpAny_newFunctionEnv S.nocell (fun ⟨n, _⟩ hy => S.par n (List.of_mem_zip hy).1) (fun h₁ hns hsb => ⟨I1.nolimit.fresh _ hsb, ?_⟩) S.kind)
    have kp : ∀ b o, s1.heap.get? b = some o → h₁.get? b = some o := fun b o e => hsb.extBut b o (Nat.ne_of_lt (Heap.lt_size e)) (Heap.get?_push_of_some _ e)
    have J := inv_startN (CX := CX0) (E := E0) (F := ⟨"<lambda>", q, params, [], scope, cl, c'⟩) (f := f) (tk := s1.toks + (ps.zip us).length) S hr.hd e0 hl r (cells_of I1 C) hns kp
    refine PySem.W.kla_codeExpr (wpAny_mono ((hbody A (hr.deeper _)).run [] _ _ HZ Q J ht) (fun v s' hq => ?_) fun e s' hq => hq)
    obtain ⟨w', H', J', rv, q⟩ := hq
    exact ⟨w', H', J'.os, J'.bare, J'.base, J'.hok, rv, q⟩
  refine wpAny_call (codeAny_mono rc fun r s' hq => ?_)
  cases r with
  | error e => exact (show False from hq).elim
  | ok fl =>
    cases fl with
    | ret u => exact fin u s' hq
    | next => exact False.elim hq
    | brk => exact False.elim hq
    | cont => exact False.elim hq
end
/-! ### sorted by a key that is a number -/
section
variable {prog : Program} {w : World} {A : Around} {s : Shared} {a kS : Addr} {e1 : Nat} {vs : List Value} {P : PySem.Fin → Shared → Prop}
open PySem.W in
theorem keyJ_rest {E : Value → Shared → Prop} {J : Shared → Prop} {f : Value} {kz : List Int} (j0 : J s) (gK : s.heap.get? kS = some (seqObj "list" #[] 0)) (gA : s.heap.get? a = some (seqObj "list" #[] e1)) (hka : kS ≠ a) (hlen : kz.length = vs.length) (hZ : vs.length ≤ sizeLine) (hu : A.units < cLine)
    (up : ∀ s' g tk, J s' → (∀ b o, b ≠ kS → s'.heap.get? b = some o → g.get? b = some o) → J { s' with heap := g, toks := tk })
    (up2 : ∀ s' g tk, J s' → (∀ b o, b ≠ kS → b ≠ a → s'.heap.get? b = some o → g.get? b = some o) → J { s' with heap := g, toks := tk })
    (turn : ∀ (i : Nat) (v : Value) (k : Int), vs[i]? = some v → kz[i]? = some k → ∀ s', J s' → (∃ o, s'.heap.get? kS = some o) → (∃ o, s'.heap.get? a = some o) → wpAny (model prog w) A (call f [v]) (fun u s'' => (∃ t, u = .int k t) ∧ J s'' ∧ ∀ b o, (b = kS ∨ b = a) → s'.heap.get? b = some o → s''.heap.get? b = some o) (fun _ _ => False) s')
    (h : ∀ s' out c, J s' → s'.heap.get? a = some (seqObj "list" (List.toArray out) c) → KeyedOut false (kz.map PyData.int) vs out → P (.done (.ret .none)) s') :
    wpAny (model prog w) A (ksk_rest a f false vs.toArray e1 (.ref kS)) P E s := by
  unfold ksk_rest
  refine wpAny_bind (wpAny_rule ?_)
  first
    | rw [List.forIn_toArray]
    | (rw [← Array.forIn_toList]; simp only [List.toList_toArray])
    | rw [← Array.forIn_toList]
  refine wpAny_bind (ksk_fold (fun i s' => J s' ∧ ∃ kA e, s'.heap.get? kS = some (seqObj "list" kA e) ∧ s'.heap.get? a = some (seqObj "list" #[] e1) ∧ ∃ ts : List Tok, ts.length = min i kz.length ∧ kA.toList = ((kz.take i).zip ts).map fun p => Value.int p.1 p.2) vs 0 s
    ⟨j0, #[], 0, gK, gA, [], by simp, by simp⟩ (fun j x s' hx ⟨jj, kA, e, gK', gA', ts, tl, hk⟩ => ?_) fun s' ⟨jj, kA, e, gK', gA', ts, tl, hk⟩ => ?_)
  · simp only [Nat.zero_add] at tl hk ⊢
    have hj : j < vs.length := (List.getElem?_eq_some_iff.mp hx).1
    obtain ⟨k, hkj⟩ : ∃ k, kz[j]? = some k := ⟨_, List.getElem?_eq_getElem (by omega)⟩
    have hz : kA.size ≤ vs.length := by
      rw [← Array.length_toList, hk, List.length_map, List.length_zip, List.length_take, tl]; omega
    refine wpAny_bind (wpAny_attempt (wpAny_mono (turn j x k hx hkj s' jj ⟨_, gK'⟩ ⟨_, gA'⟩) (fun v s'' ⟨⟨t, ev⟩, j2, kp⟩ => ?_) fun _ _ z => z.elim))
    subst ev
    have gK2 := kp _ _ (.inl rfl) gK'
    have gA2 := kp _ _ (.inr rfl) gA'
    have sb := Heap.SameBut.update s''.heap kS (Obj.mapSeq (·.push (Value.int k t)))
    obtain ⟨c2, hc2⟩ : ∃ c2, (s''.heap.update kS (Obj.mapSeq (·.push (Value.int k t)))).get? kS = some (seqObj "list" (kA.push (Value.int k t)) c2) := ⟨_, get?_update_seq gK2 (·.push (Value.int k t))⟩
    refine wpAny_bind (listUpdate_at gK2 rfl ?_ (by omega) (by rw [Array.size_push]; omega))
    refine wpAny_pure ⟨rfl, ?_, _, _, hc2, (sb.2 a hka.symm).trans gA2, ts ++ [t], ?_, ?_⟩
    · exact up s'' _ s''.toks j2 fun b o hb q => (sb.2 b hb).trans q
    · rw [List.length_append, tl]; simp; omega
    · rw [Array.toList_push, hk, List.take_add_one, hkj]
      rw [show (some k).toList = [k] from rfl, List.zip_append (by rw [List.length_take, tl]), List.map_append]
      rfl
  · simp only [Nat.zero_add] at tl hk
    have e3 : kz.take vs.length = kz := List.take_of_length_le (by omega)
    rw [e3] at hk
    rw [show min vs.length kz.length = kz.length by omega] at tl
    have hk' : EachIs (fun v k => ∃ as, Reads s'.heap v k as) kA.toList (kz.map PyData.int) := by
      rw [hk]
      refine EachIs.of_zip (by simp [tl]) fun p hp => ?_
      obtain ⟨i, hi⟩ := List.mem_iff_getElem?.mp hp
      rw [List.getElem?_zip_eq_some] at hi
      obtain ⟨h1, h2⟩ := hi
      rw [List.getElem?_map] at h1 h2
      cases q : (kz.zip ts)[i]? with
      | none => rw [q] at h1; cases h1
      | some x =>
        rw [q] at h1
        have q2 := List.getElem?_zip_eq_some.mp q
        rw [q2.1] at h2
        have h1 : some (Value.int x.1 x.2) = some p.1 := h1
        have h2 : some (PyData.int x.1) = some p.2 := h2
        rw [← Option.some.inj h1, ← Option.some.inj h2]
        exact ⟨[], .int _ _⟩
    have hal : AllAlike (kz.map PyData.int) := AllAlike.of fun _ _ => by simp [alike]
    have hsk : Sortable (kz.map PyData.int) := Sortable.others fun _ => ⟨(fun z => by cases z), fun _ z => by cases z⟩
    have hsz : kA.size = vs.length := by
      rw [← Array.length_toList, hk, List.length_map, List.length_zip, tl]; omega
    try dsimp only
    refine wpAny_bind (listItems_at gK' rfl ?_)
    have hid : (hideAll s'.heap [kS]).get? kS = none := hideAll_none [kS] (by simp)
    refine keyH_end (κ := dataKind s'.heap (kz.map PyData.int)) (h₁ := hideAll s'.heap [kS]) (fun b o _ q => of_hideAll [kS] q) hid gK' gA' hka (SortsAt.data (s := s') hk' hal hsk fun d m => ?_) hsz hZ fun h3 tk3 c k3 n3 => ?_
    · obtain ⟨x, _, rfl⟩ := List.mem_map.mp m
      simpa [PyData.depth] using hu
    · refine h { s' with heap := h3, toks := tk3 } _ c (up2 s' h3 tk3 jj fun b o h1 h2 q => k3 b o h2 (hideAll_get [kS] q (by simpa using h1))) n3 ⟨s'.heap, kA.toList, hal, rfl, hk'⟩
end
/-! ### the rule -/
section
variable {X : Cx} {cs : Cs} {pins : List (Addr × Obj)} {σ : L2.St} {H H' : Hp} {s : Shared}
/-- untracked objects of ours are changed -/
theorem inv_loose {ch : List Addr} {g : Heap} {tk : Nat} (I : Inv X pins σ H s) (hn : ∀ b ∈ ch, H b = none) (hch : ∀ b ∈ ch, (b ∈ X.ex ∨ X.s_0.heap.objs.size ≤ b) ∧ b ≠ X.env.locals ∧ (∀ x c, X.env.cells.lookup x = some c → c ≠ b) ∧ ∀ p ∈ X.pn ++ pins, p.1 ≠ b)
    (k : ∀ b o, b ∉ ch → s.heap.get? b = some o → g.get? b = some o) : Inv X pins σ H { s with heap := g, toks := tk } := by
  refine I.step (g' := s.gens) (d' := s.drawn) (ch := ch) hch (fun b o _ _ c e _ => k b o c e) (fun b o _ _ c e _ => ⟨o.slots, k b o c e⟩) (fun _ _ _ _ n => n) (fun b o c e => ⟨o, k b o c e⟩) (fun _ _ e => e) (fun _ _ _ e => e) (fun b ps e => ⟨#[], by rw [e]; simp⟩) (fun m hm => ?_) (fun b u e => ?_) I.bare
  · obtain ⟨o, es, ep, ho, r⟩ := hm
    exact ⟨o, es, ep, k _ o (fun z => (hch _ z).2.1 rfl) ho, r⟩
  · refine (I.hok b u e).stay (fun c v hc q => k c v (fun z => ?_) q) (fun _ q => q) fun _ _ q => q
    have n := hn c z
    rcases hc with hc | hc
    · rw [hc, e] at n; cases n
    · rw [hc] at n; cases n
/-- an untracked list of ours is known from now on -/
theorem inv_track {a : Addr} {vs : List V} (I : Inv X pins σ H s) (hn : H a = none) (hch : (a ∈ X.ex ∨ X.s_0.heap.objs.size ≤ a) ∧ a ≠ X.env.locals ∧ (∀ x c, X.env.cells.lookup x = some c → c ≠ a) ∧ ∀ p ∈ X.pn ++ pins, p.1 ≠ a)
    (new : ObjOk X.prog X.w (upd H a (.lst vs)) s.heap a (.lst vs)) : Inv X pins σ (upd H a (.lst vs)) s := by
  have ne : ∀ b u, H b = some u → b ≠ a := fun b u e z => by rw [z, hn] at e; cases e
  have q := I.step (h' := s.heap) (t' := s.toks) (H' := upd H a (.lst vs)) (g' := s.gens) (d' := s.drawn) (ch := [a]) (fun b hb => by rw [List.mem_singleton.mp hb]; exact hch) (fun b o _ _ _ e _ => e) (fun b o _ _ _ e _ => ⟨o.slots, e⟩)
    (fun b o hb _ n => by rw [upd_ne (fun z => hb (by rw [z]; exact List.mem_singleton.mpr rfl))]; exact n) (fun b o _ e => ⟨o, e⟩) (fun b xs e => by rw [upd_ne (ne b _ e)]; exact e) (fun b o u e => by rw [upd_ne (ne b _ e)]; exact e)
    (fun b ps e => ⟨#[], by rw [upd_ne (ne b _ e), e]; simp⟩) (fun m hm => hm) (fun b u e => ?_) I.bare
  · exact q
  · by_cases hb : b = a
    · subst hb; rw [upd_same] at e; cases e; exact new
    · rw [upd_ne hb] at e
      exact (I.hok b u e).stay (fun c v hc q => q) (fun c q => by rw [upd_ne (ne c _ q)]; exact q) fun c xs q => by rw [upd_ne (ne c _ q)]; exact q
theorem new_ch (I : Inv X pins σ H s) {b : Addr} (h : s.heap.objs.size ≤ b) : (b ∈ X.ex ∨ X.s_0.heap.objs.size ≤ b) ∧ b ≠ X.env.locals ∧ (∀ x c, X.env.cells.lookup x = some c → c ≠ b) ∧ ∀ p ∈ X.pn ++ pins, p.1 ≠ b := by
  refine ⟨.inr (Nat.le_trans I.sz h), fun z => ?_, fun x c e z => ?_, fun p hp z => ?_⟩
  · have q := I.lt
    rw [← z] at q
    exact absurd (Nat.lt_of_lt_of_le q h) (Nat.lt_irrefl _)
  · obtain ⟨v, o, ho, _⟩ := I.cell x c e
    rw [z] at ho
    exact absurd (Nat.lt_of_lt_of_le (Heap.lt_size ho) h) (Nat.lt_irrefl _)
  · have q := (I.pin p hp).1
    rw [z] at q
    exact absurd (Nat.lt_of_lt_of_le (Heap.lt_size q) h) (Nat.lt_irrefl _)
theorem RL.of_pairs {K : PySem.W.Frag} {Z : Addr → Prop} : ∀ {l : List (V × D)}, (∀ p ∈ l, R K cs H Z p.2 p.1 []) → RL K cs H Z (l.map Prod.snd) (l.map Prod.fst) []
  | [], _ => ⟨rfl, rfl⟩
  | p :: l, h => ⟨p.1, _, [], [], rfl, h p List.mem_cons_self, RL.of_pairs fun q m => h q (List.mem_cons_of_mem _ m), rfl⟩
theorem RL.pairs {K : PySem.W.Frag} {Z : Addr → Prop} : ∀ {xs : List D} {vs : List V}, RL K cs H Z xs vs [] → ∀ p ∈ vs.zip xs, R K cs H Z p.2 p.1 []
  | [], vs, r, p, m => by rw [r.1] at m; cases m
  | x :: xs, vs, r, p, m => by
    obtain ⟨v, vs', F1, F2, rfl, r1, r2, e⟩ := r
    have e := List.append_eq_nil_iff.mp e.symm
    rw [e.1] at r1; rw [e.2] at r2
    rw [List.zip_cons_cons] at m
    rcases List.mem_cons.mp m with rfl | m
    · exact r1
    · exact RL.pairs r2 p m
theorem vals_of_each : ∀ {out : List Value} {ms : List (V × D)}, PySem.W.EachIs (fun v (p : V × D) => RelV p.1 v) out ms → Vals (ms.map Prod.fst) out
  | _, _, .nil => .nil
  | _, _, .cons h t => .cons h (vals_of_each t)
theorem each_of_vals : ∀ {vs : List V} {its : List Value} {xs : List D}, Vals vs its → vs.length = xs.length → PySem.W.EachIs (fun v (p : V × D) => RelV p.1 v) its (vs.zip xs)
  | [], _, xs, r, l => by cases r; exact .nil
  | v :: vs, _, [], r, l => by simp at l
  | v :: vs, _, x :: xs, r, l => by
    cases r with
    | cons h t => exact .cons h (each_of_vals t (by simpa using l))
def capE (js : List Nat) (env : Env) : Env := js.map fun j => match env[j]? with
  | some (some d) => some (frz d)
  | _ => none
def sortL_ (ta : TED) (js : List Nat) (tb : TED) : TED := fun env Q => ta env fun d => ∃ m xs, d = .lst m xs ∧ noOwnL xs = true ∧ ∃ k : D → Int, (∀ x ∈ xs, tb (some x :: capE js env) fun r => r = .int (k x)) ∧ Q (.lst true (xs.mergeSort fun a b => decide (k a ≤ k b)))
/-- the slots of a lambda that is called -/
theorem rel_lam {K : PySem.W.Frag} {e : En} {Z : Addr → Prop} {env : Env} {Fs : Nat → List Addr} {N : List Str} {js : List Nat} {x : D} {v : V} (rl : Rel K cs e H Z σ env Fs) (sm : Sm cs H H') (rx : R K cs H Z x v []) (hN : N.length = 1 + js.length) :
    Rel K cs ⟨H', fun a => Z a ∨ ∃ i, a ∈ Fs i, fun _ => False, [], []⟩ H' (fun a => Z a ∨ ∃ i, a ∈ Fs i) (startF N [v] (js.map (slotAt σ))) (some x :: capE js env) fun _ => [] := by
  have za : ∀ a, (Z a ∨ ∃ i, a ∈ Fs i) → ∃ o, H' a = some o := fun a z => by
    rcases z with z | ⟨i, z⟩
    · obtain ⟨o, w⟩ := rl.za a z
      exact sm.there a o w
    · obtain ⟨o, w⟩ := rl.alloc z
      exact sm.there a o w
  have up : ∀ a, Z a → Z a ∨ ∃ i, a ∈ Fs i := fun a z => .inl z
  have sl : startF N [v] (js.map (slotAt σ)) = some v :: js.map (slotAt σ) := by
    unfold startF
    rw [List.length_map, hN]
    simp
  rw [sl]
  refine ⟨fun i d h => ?_, fun _ _ => rfl, fun _ => List.nodup_nil, fun _ _ _ _ m => (by cases m), fun _ _ m => (by cases m), za, fun _ _ m => (by cases m), fun a o h _ _ => h, fun a o h => .inr ⟨o, h⟩, sm.tabs rl.tb, fun a z => z, fun a z => Or.inl z, fun p m => (by cases m), fun p m => (by cases m), by simp [capE]⟩
  cases i with
  | zero =>
    have h : x = d := by simpa using h
    subst h
    exact ⟨v, rfl, R.keep up x v [] (fun a o e n _ => sm.keep a o e n) rx⟩
  | succ i =>
    unfold capE at h
    rw [List.getElem?_cons_succ, List.getElem?_map] at h
    cases hj : js[i]? with
    | none => rw [hj] at h; cases h
    | some j =>
      rw [hj] at h
      have h : some (match env[j]? with
        | some (some d) => some (frz d)
        | _ => none) = some (some d) := h
      cases he : env[j]? with
      | none => rw [he] at h; cases h
      | some o =>
        cases o with
        | none => rw [he] at h; cases h
        | some d0 =>
          rw [he] at h
          have h : some (some (frz d0)) = some (some d) := h
          cases h
          obtain ⟨u, h1, h2⟩ := rl.slot j d0 he
          refine ⟨u, ?_, R.keep (fun _ z => z) _ u [] (fun a o e n _ => sm.keep a o e n) (R.fr up d0 u (Fs j) (fun a m => .inr ⟨j, m⟩) h2)⟩
          rw [List.getElem?_cons_succ, List.getElem?_map, hj]
          show some (slotAt σ j) = _
          rw [slotAt_of h1]
end
section
variable {X : Cx} {cs : Cs} {a : Expr} {pos p lpos kpos : Pos} {ta tb : TED}
open PySem.W in
theorem vt_sortL {params : Arguments} {body : Expr} {scope : Scope} {N fr : List Str} {x : Str} {js : List Nat} {k : Nat} (L : LamT X cs) (hr : Room (k + 3) X.A) (hg : Gl X "sorted") (hm : X.mg "sorted" = none) (ha : VP X cs a ta) (S : NScope N [x] fr scope) (hN : N.length = 1 + js.length)
    (hbind : ∀ (q : Str) (cl : List (Str × Addr)) (pm cv ctv u : Value), bindArgs (PySem.W.kla_fn "<lambda>" q params body scope cl pm cv ctv) ⟨[u], []⟩ = pure [(x, u)]) (hd : defaultsOf params X.env = ([], []))
    (hfree : ∀ y ∈ scope.names, y.2 = .free → X.env.scope.names.lookup y.1 = some .cell ∨ X.env.scope.names.lookup y.1 = some .free) (hfr : ∀ y ∈ fr, (y, NameKind.free) ∈ scope.names) (hjs : js.map (fun j => X.N[j]?) = fr.map some)
    (hbody : ∀ (f c' : Addr) (A : Around) (s : Shared) (H : Hp), Room k (A.deeper (envF ⟨"<lambda>", lamQ X, params, [], scope, cloFrom X.env.cells scope.names [], c'⟩ f s.heap.objs.size)) → VP (ncx CX0 X.prog X.w X.K X.mg X.base N ⟨"<lambda>", lamQ X, params, [], scope, cloFrom X.env.cells scope.names [], c'⟩ f A X.stack s H E0) cs body tb)
    (he2 : starEach [a] X.env = (false, eval a X.env) :: starEach [] X.env := by rfl) (he : backTo pos (starEach [a] X.env) = (false, eval a X.env) :: backTo pos (starEach [] X.env) := by rfl) (hpl : (backTo pos (starEach [a] X.env)).any (·.1) = false := by rfl) :
    VT X cs (.Call (.Name "sorted" p) [a] [⟨some "key", .Lambda params body scope lpos, kpos⟩] pos) (sortL_ ta js tb) := by
  refine ⟨⟨fun pins s σ H Q I h => ?_⟩⟩
  obtain ⟨e, env, Z, Fs, rl, QD, q, kk⟩ := h
  have hfr2 : ∀ y ∈ scope.names, y.2 = .free → ∃ c, X.env.cells.lookup y.1 = some c := fun y hy e => (hfree y hy e).elim (fun z => I.ok.has _ (.inl z)) fun z => I.ok.has _ (.inr z)
  refine wpAny_Call_Name_kw (ld_blt I hg hm (show bootBuiltins "sorted" = some (.builtin "sorted") by decide +kernel) ?_)
  refine PyProof.Rows.callWith_kw (thn ((pa_cons ha.run pa_nil he2).run pos pins s σ H (fun vs H1 => ∃ v d F Z1, vs = [v] ∧ Ext cs H H1 Z Z1 ∧ R X.K cs H1 Z1 d v F ∧ ∃ m xs, d = .lst m xs ∧ noOwnL xs = true ∧ ∃ k : D → Int, (∀ x ∈ xs, tb (some x :: capE js env) fun r => r = .int (k x)) ∧ QD (.lst true (xs.mergeSort fun a b => decide (k a ≤ k b)))) I
    ⟨e, env, Z, Fs, rl, _, q, fun v H1 Z1 d F x1 rv q1 => ⟨v, d, F, Z1, rfl, x1, rv, q1⟩⟩) fun us s1 ⟨vs, H1, I1, r1, v, d, F, Z1, e1, x1, rv, m, xs, ed, nx, kf, hk, q1⟩ => ?_) he hpl (by rfl) (by rfl)
  cases e1; cases ed
  have rl1 := rl.ext x1
  show wpAny _ _ (evalAll ((do let v ← eval (.Lambda params body scope lpos) X.env; standAt pos; pure v) :: [])) _ _ s1
  refine wpAny_evalAll_cons (wpAny_bind (lam_new I1 L rl1.tb hd hfr2 fun f c' pm ctv H2 s2 I2 sm sz of2 nf gf hco bk => wpAny_bind (wpAny_standAt (wpAny_pure (wpAny_evalAll_nil ?_)))))
  have rv2 : R X.K cs H2 Z1 (.lst m xs) v F := R.ext (Ext.of sm) rv
  obtain ⟨l, vs0, F', ev, t, r, _⟩ := R.lstv rv2
  subst ev
  obtain rfl := Vals.ref1 r1
  have r0 := RL.noF0 r nx
  obtain ⟨its, rvs, pl, hz⟩ := I2.list t
  have lv : vs0.length = xs.length := r0.len
  have li : its.length = vs0.length := rvs.length.symm
  have lz : its.length ≤ sizeLine := by omega
  have rl2 := rl1.ext (Ext.of sm)
  show wpAny _ _ (call (.builtin "sorted") [.ref l] [(Str.ofString "key", .ref f)]) _ _ s2
  refine sorted_of_sort pl.isList lz (ksk_s1 _ _) (fun _ => ksk_l1 _ _) fun E' => ?_
  rw [ksk_t1]
  have hlt : s2.heap.objs.size + 1 < (copyHeap s2.heap its).objs.size := Heap.lt_size (copyHeap_at s2.heap its)
  obtain ⟨e1, ge1⟩ : ∃ e1, ((copyHeap s2.heap its).update (s2.heap.objs.size + 1) (Obj.mapSeq fun _ => (#[] : Array Value))).get? (s2.heap.objs.size + 1) = some (seqObj "list" #[] e1) := ⟨_, get?_update_seq (copyHeap_at s2.heap its) fun _ => #[]⟩
  unfold ksk_tree
  refine wpAny_bind (listItems_at (copyHeap_at s2.heap its) rfl (wpAny_bind (listUpdate_at (copyHeap_at s2.heap its) rfl ?_ (by rw [List.size_toArray]; exact lz) (Nat.zero_le _))))
  refine wpAny_bind (seqEpoch_at ge1 rfl (wpAny_bind (wpAny_newTuple ?_ (by show its.length ≤ _; exact lz))))
  refine wpAny_bind (wpAny_newList (wpAny_holding ?_) (Nat.zero_le _))
  have oldk : ∀ b o, s2.heap.get? b = some o → (sortingHeap (copyHeap s2.heap its) (s2.heap.objs.size + 1) its).get? b = some o := fun b o q => sortingHeap_old (Nat.ne_of_lt (Nat.lt_succ_of_lt (Heap.lt_size q))) (copyHeap_old q)
  have szk : (((copyHeap s2.heap its).update (s2.heap.objs.size + 1) (Obj.mapSeq fun _ => (#[] : Array Value))).push (seqObj "tuple" its.toArray 0)).objs.size = (copyHeap s2.heap its).objs.size + 1 := by rw [size_push', Heap.size_update]
  have ska : (((copyHeap s2.heap its).update (s2.heap.objs.size + 1) (Obj.mapSeq fun _ => (#[] : Array Value))).push (seqObj "tuple" its.toArray 0)).objs.size ≠ s2.heap.objs.size + 1 := by rw [szk]; omega
  have new : ∀ b, s2.heap.objs.size ≤ b → H2 b = none := fun b hb => I2.hok.fresh hb
  have nfr : ∀ b, s2.heap.objs.size ≤ b → b ∉ frs X.stack := fun b hb => new_nofr I2 hb
  have nfrf : f ∉ frs X.stack := new_nofr I1 gf
  refine keyJ_rest (a := s2.heap.objs.size + 1) (kS := (((copyHeap s2.heap its).update (s2.heap.objs.size + 1) (Obj.mapSeq fun _ => (#[] : Array Value))).push (seqObj "tuple" its.toArray 0)).objs.size) (kz := xs.map kf)
    (J := fun s' => ∃ H', Inv X pins σ H' s' ∧ Sm cs H2 H' ∧ H' f = none ∧ s'.heap.get? f = some (kla_obj "<lambda>" (lamQ X) params body scope (cloFrom X.env.cells scope.names []) pm c' ctv) ∧ H' (s2.heap.objs.size + 1) = none ∧ H' (((copyHeap s2.heap its).update (s2.heap.objs.size + 1) (Obj.mapSeq fun _ => (#[] : Array Value))).push (seqObj "tuple" its.toArray 0)).objs.size = none)
    (s := { s2 with heap := sortingHeap (copyHeap s2.heap its) (s2.heap.objs.size + 1) its }) ?j0 (Heap.get?_push_size _ rfl) (Heap.get?_push_of_some _ (Heap.get?_push_of_some _ ge1)) ska (by rw [List.length_map]; omega) lz (by have := hr.un; show X.A.units + 1 + 1 < cLine; omega) (fun s' g tk jj q => ?up2 s' g tk jj fun b o h1 _ e => q b o h1 e) ?up2 ?turn ?fin
  case j0 => exact ⟨H2, I2.kept (t' := s2.toks) oldk, Sm.refl H2, nf, oldk f _ of2, new _ (Nat.le_succ _), new _ (by rw [szk]; omega)⟩
  case up2 =>
    rintro s' g tk ⟨H', I', sm', nf', of', n1, n2⟩ q
    refine ⟨H', inv_loose (ch := [(((copyHeap s2.heap its).update (s2.heap.objs.size + 1) (Obj.mapSeq fun _ => (#[] : Array Value))).push (seqObj "tuple" its.toArray 0)).objs.size, s2.heap.objs.size + 1]) I' (fun b m => ?_) (fun b m => ?_) (fun b o m e => ?_), sm', nf', ?_, n1, n2⟩
    · simp only [List.mem_cons, List.not_mem_nil, or_false] at m
      rcases m with rfl | rfl
      · exact n2
      · exact n1
    · simp only [List.mem_cons, List.not_mem_nil, or_false] at m
      rcases m with rfl | rfl
      · exact new_ch I2 (by rw [szk]; omega)
      · exact new_ch I2 (Nat.le_succ _)
    · simp only [List.mem_cons, List.not_mem_nil, or_false, not_or] at m
      exact q b o m.1 m.2 e
    · have fl := Heap.lt_size of2
      exact q f _ (Nat.ne_of_lt (by rw [szk]; exact Nat.lt_of_lt_of_le fl (by omega))) (Nat.ne_of_lt (Nat.lt_succ_of_lt fl)) of'
  case turn =>
    rintro i v0 k0 hv hk0 s' ⟨H', I', sm', nf', of', n1, n2⟩ ⟨oK, hoK⟩ ⟨oA, hoA⟩
    have hi := (List.getElem?_eq_some_iff.mp hv).1
    obtain ⟨xd, hxd⟩ : ∃ xd, xs[i]? = some xd := ⟨_, List.getElem?_eq_getElem (by omega)⟩
    obtain ⟨xv, hxv⟩ : ∃ xv, vs0[i]? = some xv := ⟨_, List.getElem?_eq_getElem (by omega)⟩
    rw [List.getElem?_map, hxd] at hk0
    obtain rfl := Option.some.inj hk0
    obtain ⟨u, hu, ru⟩ := rvs.get hxv
    rw [hv] at hu
    obtain rfl := Option.some.inj hu
    have rx := RL.get0 r0 hxd hxv
    have ntC : ∀ c q, NT (CodeO c q) := fun c q _ z => by unfold CodeO at z; cases z
    refine lam_run (k := k) (vs := [xv]) (us := [v0]) (tb := tOf X.K cs tb) (Q := fun w H'' => w = .int (kf xd) ∧ Sm cs H' H'') S (hbind _ _ _ _ _ _) I' of' (sm'.keep _ _ hco (ntC _ _)) (Caps.made I'.ok hfree hfr hjs) I'.env0.in1.in1 hr.in1.in1 rfl (.cons ru .nil) (fun A hA => (hbody f c' A s' H' hA).run)
      ⟨_, some xd :: capE js env, _, fun _ => [], rel_lam rl2 sm' rx hN, fun r => r = .int (kf xd), hk xd (List.mem_of_getElem? hxd), fun w H'' Z'' d F x4 rr ed => by subst ed; exact ⟨rr.1, x4.same⟩⟩ fun u s'' ⟨w, H'', os, bare, un, hok, rw', ew, sm4⟩ => ?_
    subst ew
    refine ⟨rw', ⟨H'', I'.call' os un hok bare (fun b z => absurd z (by simp)), sm'.trans sm4, un.free f _ of' nf' (by simp), un.keep f _ of' nf' nfrf (by simp), un.free _ _ hoA n1 (by simp), un.free _ _ hoK n2 (by simp)⟩, fun b o hb q => ?_⟩
    rcases hb with rfl | rfl
    · exact un.keep _ o q n2 (nfr _ (by rw [szk]; omega)) (by simp)
    · exact un.keep _ o q n1 (nfr _ (Nat.le_succ _)) (by simp)
  case fin =>
    rintro s' out c ⟨H', I', sm', nf', of', n1, n2⟩ hout ko
    refine ⟨rfl, ?_⟩
    have ek : (vs0.zip xs).map (fun p => PyData.int (kf p.2)) = (xs.map kf).map PyData.int := by
      have := congrArg (List.map fun x => PyData.int (kf x)) (List.map_snd_zip (l₁ := vs0) (l₂ := xs) (by omega))
      rw [List.map_map] at this
      rw [List.map_map]; exact this
    rw [← ek] at ko
    have ho := keyedOut_each (fun p : V × D => PyData.int (kf p.2)) ko (each_of_vals rvs lv)
    rw [dataLe_int (fun p : V × D => kf p.2)] at ho
    have em : ((vs0.zip xs).mergeSort fun a b => decide (kf a.2 ≤ kf b.2)).map Prod.snd = xs.mergeSort fun a b => decide (kf a ≤ kf b) := by
      rw [List.map_mergeSort (s := fun a b => decide (kf a ≤ kf b)) (fun _ _ _ _ => rfl), List.map_snd_zip (by omega)]
    have rp : RL X.K cs H' Z1 (xs.mergeSort fun a b => decide (kf a ≤ kf b)) (((vs0.zip xs).mergeSort fun a b => decide (kf a.2 ≤ kf b.2)).map Prod.fst) [] := by
      rw [← em]
      exact RL.of_pairs fun p m => R.ext (Ext.of sm') (RL.pairs r0 p ((List.mergeSort_perm _ _).mem_iff.mp m))
    have vo := vals_of_each ho
    have lo : (((vs0.zip xs).mergeSort fun a b => decide (kf a.2 ≤ kf b.2)).map Prod.fst).length ≤ sizeLine := by
      rw [List.length_map, List.length_mergeSort, List.length_zip]; omega
    have hz1 : ¬ Z1 (s2.heap.objs.size + 1) := fun z => by
      obtain ⟨o, w⟩ := rl1.za _ z
      obtain ⟨o', w⟩ := (sm.trans sm').there _ o w
      rw [n1] at w; cases w
    refine ⟨.ref (s2.heap.objs.size + 1), _, inv_track I' n1 (new_ch I2 (Nat.le_succ _)) ⟨lo, _, c, vo, hout⟩, rfl, kk _ _ Z1 (.lst true _) [s2.heap.objs.size + 1] (x1.trans ((Ext.of (sm.trans sm')).trans (Ext.of (same_upd n1)))) (fresh_lst n1 rp) (by simp) (fun b m => ?_) q1⟩
    rw [List.mem_singleton.mp m]
    exact ⟨x1.same.free (sm.free (sm'.free n1)), hz1⟩
end
/-! ### defs with a lambda -/
/-- what is known of the code object of a def that makes a lambda -/
def LamD (base : Heap) (mg : Str → Option Value) (cs : Cs) (qual : Str) (cdv : Value) : Prop :=
  ∃ c P, TabB base mg c P ∧ cdv = .ref c ∧ (P, qual ++ ".<locals>." ++ "<lambda>") ∈ cs.tb ∧ ∀ p ∈ cs.tb, p.1 = P → p.2 = qual ++ ".<locals>." ++ "<lambda>"
theorem LamD.lam {P : Program} {w : World} {K : PySem.W.Frag} {mg : Str → Option Value} {base : Heap} {cs : Cs} {N : List Str} {qual : Str} {scope : Scope} {f : Addr} {cdv : Value} {A : Around} {outer : List PySem.Env} {s : Shared} {H : Hp} {E : XK} (h : LamD base mg cs qual cdv) :
    LamT (cxOf CX0 P w K mg base N qual scope f cdv A outer s H E).nox cs := by
  obtain ⟨c, P, tb, e, m, u⟩ := h
  exact ⟨⟨c, P, tb, e, m, u⟩⟩
section
variable {cs : Cs}
theorem fn_pureL {P : Program} {w : World} {K : PySem.W.Frag} {mg : Str → Option Value} {base : Heap} {x qual : Str} {st : Stmt} {f : Addr} {oc kV doc pm cdv ct : Value} {od an : Option Addr} {osl : Array (Option Value)} {N ps : List Str} {k : Nat} {s : SpD} {t : TSD}
    (lk : K.lookup f = some ⟨oc, od, .func (PySem.W.fnOf x qual (defArgs st) (defBody st) (defScope st) .none kV doc pm an cdv ct), osl⟩) (hcd : PySem.W.codeIn K cdv qual = true) (S : FnScope N ps (defScope st)) (len : ∀ ds Q, s ds Q → ds.length = ps.length)
    (body : ∀ (A : Around) (outer : List PySem.Env) (s : Shared) (H : Hp) (E : XK), Room k (A.deeper (envOfC qual (defScope st) s.heap.objs.size f cdv)) → VSs (cxOf CX0 P w K mg base N qual (defScope st) f cdv A outer s H E).nox cs [] (defBody st) t)
    (law : ∀ ds Q, s ds Q → t { nx := fun _ => Q .non, rt := fun d _ => Q d } (env0 N.length ds)) : FnOk P w K mg base CX0 (k + 1) f (PySem.W.fnOf x qual (defArgs st) (defBody st) (defScope st) .none kV doc pm an cdv ct) ps (spOf K cs s) := by
  refine fn_of lk hcd S (fun vs H Q E ⟨_, Z, ds, za, r, QD, h, _⟩ => by rw [r.len]; exact len ds QD h) fun A outer sh H vs Q E hr ⟨tb, Z, ds, za, r, QD, h, fin⟩ => ?_
  refine ⟨_, (((body A outer sh H E hr).run ⟨H, Z, fun _ => False, [], []⟩ (fun p m => (by cases m)))).nox, env0 N.length ds, Z, fun _ => [], _, rel_start tb za r, law ds QD h, fun σ H' Z' env Fs rl q => ?_, fun _ _ _ _ _ _ q => q, fun _ _ _ _ _ _ q => q, fun v σ H' Z' env Fs d Fd rl rd nd hF q => ?_⟩
  · exact fin .non H' Z' .non [] ⟨⟨fun a o h n => rl.fr a o h n id, fun a o h => (rl.th a o h).elim False.elim id, fun _ => rl.tb⟩, rl.z0, fun a z => (rl.z1 a z).imp_right fun w => ⟨w.elim id False.elim, rl.za a z⟩⟩ ⟨rfl, rfl⟩ List.nodup_nil (fun a m => by cases m) q
  · exact fin v H' Z' d Fd ⟨⟨fun a o h n => rl.fr a o h n id, fun a o h => (rl.th a o h).elim False.elim id, fun _ => rl.tb⟩, rl.z0, fun a z => (rl.z1 a z).imp_right fun w => ⟨w.elim id False.elim, rl.za a z⟩⟩ rd nd (fun a m => ⟨(hF a m).2.1.elim False.elim id, (hF a m).1⟩) q
end
/-- the law's end, with tables -/
theorem at_law {l : PySem.W.OpenLaw} {w : World} {K : PySem.W.Frag} {k n : Nat} {mg : Str → Option Value} {fa : Addr} {h : Heap} {fd : FuncData} {ts : List ((Addr × Addr) × Str)} (X : K.In h) (hT : ∀ p ∈ ts, h.get? p.1.2 = some { cls := .none, data := .fields #[] }) (nT : ∀ p ∈ ts, K.lookup p.1.2 = none)
    (C : ∀ p ∈ ts, PySem.W.codeHdIn K p.1.1 p.1.2 = true) (hb : ∀ (s : Shared) (u : Value), BindsTo s fd ⟨[u], []⟩ [("script", u)])
    (F : ∀ base : Heap, K.In base → base.Ns mainGlobals mg → (∀ p ∈ ts, TabB base mg p.1.1 p.1.2) → FnOk l.prog w K mg base CX0 k fa fd ["script"] (spTop K (ts.map fun p => (p.1.2, p.2)) n)) : LawAtS l w K CX0 k n "script" mg fa h := by
  refine ⟨fd, ts.map (·.1), _, fun p hp => ?_, fun p hp => ?_, fun p hp => ?_, hb, fun H a ns hl _ hH hS => ⟨fun p hp => ?_, a, ns, rfl, hS, hl, fun _ => rfl⟩, fun base hK hN hB => F base hK hN fun p hp => hB _ (List.mem_map.mpr ⟨p, hp, rfl⟩)⟩
  · obtain ⟨q, hq, rfl⟩ := List.mem_map.mp hp
    exact hT q hq
  · obtain ⟨q, hq, rfl⟩ := List.mem_map.mp hp
    exact nT q hq
  · obtain ⟨q, hq, rfl⟩ := List.mem_map.mp hp
    exact PySem.W.codeHd_of_K X (C q hq)
  · obtain ⟨q, hq, rfl⟩ := List.mem_map.mp hp
    exact TabS.nil (hH q.1 (List.mem_map.mpr ⟨q, hq, rfl⟩))
end VL
set_option maxHeartbeats 2000000
namespace VL
open PySem L2 PyProof.Rows
section
variable {X : Cx} {cs : Cs} {a b : Expr} {pos : Pos} {ta tb : TED}
/-! ### xs.index(k), a list of ints -/
def lidx_ (ta tb : TED) : TED := fun env Q => ta env fun d => ∃ m, ∃ ns : List Int, d = .lst m (ns.map .int) ∧ tb env fun y => ∃ k, y = .int k ∧ k ∈ ns ∧ Q (.int (ns.idxOf k : Nat))
theorem idx_at : ∀ {ns : List Int} {k : Int}, k ∈ ns → ns[ns.idxOf k]? = some k ∧ ∀ m : Nat, m < ns.idxOf k → ns[m]? ≠ some k
  | [], _, h => by cases h
  | n :: ns, k, h => by
    by_cases e : n = k
    · subst e
      rw [List.idxOf_cons_self]
      exact ⟨rfl, fun m h => absurd h (Nat.not_lt_zero _)⟩
    · have h' : k ∈ ns := (List.mem_cons.mp h).resolve_left fun w => e w.symm
      obtain ⟨h1, h2⟩ := idx_at h'
      have : (n :: ns).idxOf k = ns.idxOf k + 1 := by unfold List.idxOf; rw [List.findIdx_cons, show (n == k) = false from beq_false_of_ne e]; rfl
      rw [this]
      refine ⟨by simpa using h1, fun m hm => ?_⟩
      cases m with
      | zero => simpa using e
      | succ m => simpa using h2 m (by omega)
theorem vt_lidx {apos : Pos} (ha : VP X cs a ta) (hb : VP X cs b tb) (hbase : attributeBase a "index" X.env (eval a X.env) = eval a X.env := by rfl)
    (hfew : ((backTo pos (starEach [b] X.env)).all (fun x => !x.1) && (backToKw pos (keywordEach [] X.env)).all (fun x => x.1.isSome)
      && decide ([b].length + ([] : List Keyword).length + (if ([] : List Keyword).isEmpty then 0 else 1) < 30)) = true := by rfl)
    (hline : (apos.endLine == pos.line) = true := by rfl) (hs : starEach [b] X.env = (false, eval b X.env) :: starEach [] X.env := by rfl) (hplain : (backTo pos (starEach [] X.env)).any (·.1) = false := by rfl) :
    VT X cs (.Call (.Attribute a "index" apos) [b] [] pos) (lidx_ ta tb) :=
  ⟨pe_weak (pe_bm PySem.F.plainAttrs_list PySem.F.slot_list_index PySem.F.type_list_index mt_index ha.run (pa_cons hb.run pa_nil hs) hbase hfew hline hs hplain) fun σ H Q ⟨e, env, Z, Fs, rl, QD, q, k⟩ => ⟨e, env, Z, Fs, rl, _, q, fun v H1 Z1 d F x1 rv q1 => by
    obtain ⟨m, ns, rfl, q1⟩ := q1
    obtain ⟨p, ws, F', rfl, t, rr, _⟩ := R.lstv rv
    have ev := RL.ints rr
    subst ev
    refine ⟨.inl ⟨rfl, _, t⟩, e, env, Z1, Fs, rl.ext x1, _, q1, fun w H2 Z2 d2 G x2 rw q2 => ?_⟩
    obtain ⟨j, rfl, mj, q2⟩ := q2
    cases rw.1
    obtain ⟨h1, h2⟩ := idx_at mj
    have xx := x1.trans x2
    obtain ⟨p2, ws2, F2, e2, t2, rr2, _⟩ := R.lstv (rv.ext x2)
    cases e2
    have ev2 := RL.ints rr2
    subst ev2
    refine ⟨p, ns.map V.int, .int j, ns.idxOf j, .int j, rfl, rfl, t2, rfl, ?_, ?_, ?_, ?_, ?_⟩
    · rw [List.all_map, List.all_eq_true]
      exact fun _ _ => rfl
    · rw [List.getElem?_map, h1]; rfl
    · exact decide_eq_true rfl
    · intro m' z' hm' hz'
      rw [List.getElem?_map] at hz'
      cases hq : ns[m']? with
      | none => rw [hq] at hz'; cases hz'
      | some y =>
        rw [hq] at hz'
        cases hz'
        exact decide_eq_false fun e => h2 m' hm' (by rw [hq, e])
    · exact k _ H2 Z2 (.int _) [] xx ⟨rfl, rfl⟩ List.nodup_nil (fun a m => (by cases m)) q2⟩⟩
/-! ### len(set(xs)), xs without doubles -/
def lens_ (ta : TED) : TED := fun env Q => ta env fun d => ∃ m, ∃ ns : List Int, d = .lst m (ns.map .int) ∧ ns.Nodup ∧ ns.length ≤ 4000 ∧ Q (.int (ns.length : Nat))
theorem vt_lens {p p2 q : Pos} (hg : Gl X "len") (hm : X.mg "len" = none) (hg2 : Gl X "set") (hm2 : X.mg "set" = none) (ha : VP X cs a ta) (hc : X.calm = true)
    (na : starEach [a] X.env = (false, eval a X.env) :: starEach [] X.env := by rfl) : VT X cs (.Call (.Name "len" p) [.Call (.Name "set" p2) [a] [] q] [] pos) (lens_ ta) :=
  ⟨pe_weak (RZ.pe_lenSetI hg hm hg2 hm2 ha.run hc na) fun σ H Q ⟨e, env, Z, Fs, rl, QD, q, k⟩ => ⟨e, env, Z, Fs, rl, _, q, fun v H1 Z1 d F x1 rv q1 => by
    obtain ⟨m, ns, rfl, h1, h2, q1⟩ := q1
    obtain ⟨p, ws, F', rfl, t, rr, _⟩ := R.lstv rv
    have ev := RL.ints rr
    subst ev
    exact ⟨p, ns, rfl, t, h1, h2, k _ H1 Z1 (.int _) [] x1 ⟨rfl, rfl⟩ List.nodup_nil (fun a m => (by cases m)) q1⟩⟩⟩
/-! ### a slot's list is lent to a test -/
def lend_ (i : Nat) (t : TTD) : TTD := fun env Q => ∃ d, env[i]? = some (some d) ∧ t (env.set i (some (frz d))) Q
theorem Rel.loose {K : PySem.W.Frag} {e : En} {H : Hp} {Z : Addr → Prop} {σ : L2.St} {env : Env} {Fs : Nat → List Addr} (r : Rel K cs e H Z σ env Fs) : Rel K cs ⟨fun _ => none, Z, fun _ => False, [], []⟩ H Z σ env Fs :=
  ⟨r.slot, r.off, r.nd, r.dj, r.dz, r.za, fun _ _ _ => .inr rfl, fun _ _ h => (by cases h), fun _ _ h => (by cases h), r.tb, fun _ h => h, fun _ h => .inl h, fun _ m => (by cases m), fun _ m => (by cases m), r.len⟩
theorem vb_lend (i : Nat) {t : TTD} (h : VB X cs a t) : VB X cs a (lend_ i t) :=
  ⟨⟨fun pins s σ H Q I q => h.run.run pins s σ H Q I (by
    obtain ⟨e, env, Z, Fs, rl, QD, ⟨d, hd, q⟩, k⟩ := q
    obtain ⟨Fs', rl'⟩ := rl.loose.freeze hd fun p m => (by cases m)
    exact ⟨_, _, _, _, rl', QD, q, fun b H' Z' x hq => k b H' Z (Ext.of x.same) hq⟩)⟩⟩
/-! ### a loop over a slot's own list of ints, which stays -/
def tIL (K : PySem.W.Frag) (j : Nat) : TI := fun σ H Rr => ∃ (p : Addr) (xs : List V), σ[j]? = some (some (.ref p)) ∧ SqL K H p xs ∧ Rr (Itl K p) H
theorem pi_own {tg iter : Expr} {j : Nat} (hv : PE X iter (tVar j)) : PI X tg iter (tIL X.K j) := by
  refine ⟨fun pins s σ H Rr I h => ?_⟩
  obtain ⟨p, xs, hσ, hq, q⟩ := h
  refine thn (hv.run pins s σ H (fun v H1 => v = .ref p ∧ H1 = H) I ⟨_, hσ, rfl, rfl⟩) fun v s1 ⟨x, H1, I1, r1, e1, e2⟩ => ?_
  subst e1 e2
  cases r1
  exact itl_ok I1 hq q
def forO_ (i j : Nat) (tb : TSD) : TSD := fun E env => ∃ (m : Bool) (ns : List Int), env[j]? = some (some (.lst m (ns.map .int))) ∧ ∃ Pv : Nat → Env → Prop, Pv 0 env ∧ (∀ k env', Pv k env' → env'[j]? = some (some (.lst m (ns.map .int)))) ∧
  (∀ (k : Nat) n env', ns[k]? = some n → Pv k env' → tb { nx := Pv (k + 1), ct := Pv (k + 1), bk := E.nx, rt := E.rt } (env'.set i (some (.int n)))) ∧ ∀ env', Pv ns.length env' → E.nx env'
theorem Rel.withio {K : PySem.W.Frag} {e : En} {H : Hp} {Z : Addr → Prop} {σ : L2.St} {env : Env} {Fs : Nat → List Addr} (r : Rel K cs e H Z σ env Fs) {j : Nat} {v : V} (h : σ[j]? = some (some v)) : Rel K cs { e with io := (j, v) :: e.io } H Z σ env Fs :=
  ⟨r.slot, r.off, r.nd, r.dj, r.dz, r.za, r.own, r.fr, r.th, r.tb, r.z0, r.z1, fun p m => by
    rcases List.mem_cons.mp m with rfl | m
    · exact h
    · exact r.io p m, r.gs, r.len⟩
theorem Rel.lessio {K : PySem.W.Frag} {e : En} {H : Hp} {Z : Addr → Prop} {σ : L2.St} {env : Env} {Fs : Nat → List Addr} {q : Nat × V} (r : Rel K cs { e with io := q :: e.io } H Z σ env Fs) : Rel K cs e H Z σ env Fs :=
  ⟨r.slot, r.off, r.nd, r.dj, r.dz, r.za, r.own, r.fr, r.th, r.tb, r.z0, r.z1, fun p m => r.io p (List.mem_cons_of_mem _ m), r.gs, r.len⟩
theorem own_at {K : PySem.W.Frag} {e : En} {H : Hp} {Z : Addr → Prop} {σ : L2.St} {env : Env} {Fs : Nat → List Addr} (r : Rel K cs e H Z σ env Fs) {j : Nat} {m : Bool} {ns : List Int} (h : env[j]? = some (some (.lst m (ns.map .int)))) : ∃ p, σ[j]? = some (some (.ref p)) ∧ SqL K H p (ns.map .int) := by
  obtain ⟨v, h1, h2⟩ := r.slot j _ h
  obtain ⟨p, vs, F', rfl, t, rr, _⟩ := R.lstv h2
  have ev := RL.ints rr
  subst ev
  exact ⟨p, h1, t⟩
theorem vs_forO (i j : Nat) {L : List Nat} {x : Str} {p : Pos} {iter : Expr} {body : List Stmt} {t : TSD} (hp : PassesOwn (model X.prog X.w) X.A X.env X.xe) (hc : X.calm = true) (hv : PE X iter (tVar j)) (hN : X.N.Nodup) (hb : VSs X cs (j :: L) body t) (hix : X.N[i]? = some x := by rfl) (hx : Loc X.env.scope x := by first | exact .inl rfl | exact .inr rfl) (hL : i ∉ j :: L := by decide)
    (hf : X.fn x = true ∨ X.env.scope.names.lookup x = some .local := by first | exact .inl rfl | exact .inr rfl | assumption) (hs : ∀ y, foldedSetIterable iter X.env y = pure y := by intro _; rfl) : VS X cs L (.For (.Name x p) iter body [] pos) (forO_ i j t) := by
  refine ⟨fun e hl => ⟨fun pins s σ H Dh I h => ?_⟩⟩
  obtain ⟨env, Z, Fs, E, rl, ⟨m, ns, hj, Pv, p0, keep, turn, fin⟩, ok⟩ := h
  have hl' : ∀ v : V, ∀ q ∈ (j, v) :: e.io, q.1 ∈ j :: L := fun v q mq => by
    rcases List.mem_cons.mp mq with rfl | mq
    · exact List.mem_cons_self
    · exact List.mem_cons_of_mem _ (hl q mq)
  have all : PS X (.For (.Name x p) iter body [] pos) (tFor (tIL X.K j) (gName i) (fun D' σ' H' => ∃ v : V, tSOf X.K cs { e with io := (j, v) :: e.io } t D' σ' H')) :=
    ps_for hp hc (pi_own hv) (pg_name hN hix hx hf) ⟨fun pins s σ H Dh I ⟨v, h⟩ => (hb.run { e with io := (j, v) :: e.io } (hl' v)).run pins s σ H Dh I h⟩ hs
  obtain ⟨a, hσ, hq⟩ := own_at rl hj
  refine all.run pins s σ H Dh I ⟨a, _, hσ, hq, ?_⟩
  have hw : Walk (Itl X.K a) ns.length (fun H => SqL X.K H a (ns.map .int)) (fun i H x H' => H' = H ∧ ∃ n, ns[i]? = some n ∧ x = .int n) := by
    refine ⟨fun i H hi q => ⟨_, .int ns[i], q, by rw [List.getElem?_map, List.getElem?_eq_getElem hi]; rfl⟩, fun H q => ⟨_, q, by rw [List.length_map]; exact Nat.le_refl _⟩, fun i H x H' hi q y => ⟨y.1, ?_⟩⟩
    have := y.2 _ q
    rw [List.getElem?_map, List.getElem?_eq_getElem hi] at this
    exact ⟨ns[i], List.getElem?_eq_getElem hi, (Option.some.inj this).symm⟩
  have gg : ∀ {H' Z' σ' env' Fs'} , Rel X.K cs { e with io := (j, .ref a) :: e.io } H' Z' σ' env' Fs' → env'[j]? = some (some (.lst m (ns.map .int))) → SqL X.K H' a (ns.map .int) := fun r he => by
    obtain ⟨b, h1, h2⟩ := own_at r he
    have := r.io (j, .ref a) List.mem_cons_self
    rw [h1] at this
    cases this
    exact h2
  refine for_it (g := gName i) (tb := fun D' σ' H' => ∃ v : V, tSOf X.K cs { e with io := (j, v) :: e.io } t D' σ' H') hw (fun k σ' H' => ∃ env' Z' Fs', Rel X.K cs { e with io := (j, .ref a) :: e.io } H' Z' σ' env' Fs' ∧ Pv k env') ⟨env, Z, Fs, rl.withio hσ, p0⟩
    (fun k σ' H' _ ⟨env', Z', Fs', r, pv⟩ => gg r (keep k env' pv)) ?_ fun σ' H' ⟨env', Z', Fs', r, h⟩ => ok.nx σ' H' Z' env' Fs' r.lessio (fin env' h)
  rintro k y σ' H' H2 hk ⟨env', Z', Fs', r, pv⟩ ⟨e1, n, hn, e2⟩
  subst e1 e2
  obtain ⟨Fs2, r2⟩ := r.sets (i := i) (d := .int n) (v := .int n) (F := []) ⟨rfl, rfl⟩ List.nodup_nil (fun a m => by cases m) (fun q mq w => hL (w ▸ hl' _ q mq))
  exact ⟨.ref a, env'.set i (some (.int n)), Z', Fs2, _, r2, turn k n env' hn pv, fun σ3 H3 Z3 env3 Fs3 r3 h => ⟨env3, Z3, Fs3, r3, h⟩, fun σ3 H3 Z3 env3 Fs3 r3 h => ok.nx σ3 H3 Z3 env3 Fs3 r3.lessio h,
    fun σ3 H3 Z3 env3 Fs3 r3 h => ⟨env3, Z3, Fs3, r3, h⟩, fun v σ3 H3 Z3 env3 Fs3 r F r3 rr nd hF h => ok.rt v σ3 H3 Z3 env3 Fs3 r F r3.lessio rr nd hF h⟩
/-- over data: the invariant by what is behind and what is ahead -/
theorem forO_pre {i j : Nat} {tb : TSD} {E : EndsD} {env : Env} {m : Bool} {ns : List Int} (hj : env[j]? = some (some (.lst m (ns.map .int)))) (Pv : List Int → Env → Prop) (h0 : Pv [] env) (hk : ∀ pre env', Pv pre env' → env'[j]? = some (some (.lst m (ns.map .int))))
    (hs : ∀ pre n post env', ns = pre ++ n :: post → Pv pre env' → tb { nx := Pv (pre ++ [n]), ct := Pv (pre ++ [n]), bk := E.nx, rt := E.rt } (env'.set i (some (.int n)))) (hd : ∀ env', Pv ns env' → E.nx env') : forO_ i j tb E env := by
  refine ⟨m, ns, hj, fun k env' => Pv (ns.take k) env', h0, fun k env' h => hk _ env' h, fun k n env' hn h => ?_, fun env' h => hd env' (by have h : Pv (ns.take ns.length) env' := h; rw [List.take_length] at h; exact h)⟩
  have hkl := (List.getElem?_eq_some_iff.mp hn).1
  have e1 : ns.take (k + 1) = ns.take k ++ [n] := by rw [List.take_add_one, hn]; rfl
  have e2 : ns = ns.take k ++ n :: ns.drop (k + 1) := by
    rw [← (List.getElem?_eq_some_iff.mp hn).2, List.getElem_cons_drop, List.take_append_drop]
  have := hs (ns.take k) n (ns.drop (k + 1)) env' e2 h
  show tb { nx := Pv (ns.take (k + 1)), ct := Pv (ns.take (k + 1)), bk := E.nx, rt := E.rt } _
  rw [e1]; exact this
end
end VL
set_option maxHeartbeats 2000000
namespace VL
open PySem PySem.Spec L2 PyProof.Rows RT
/-! ### list(reversed(xs)) -/
section
variable {prog : Program} {w : World} {A : Around} {E : Value → Shared → Prop} {s : Shared}
theorem call_list_rev {it l : Addr} {items : Array Value} {Q : Value → Shared → Prop} (hh : A.handled = none) (hit : s.heap.IsRevIter it l ((items.size : Int) - 1)) (hl : s.heap.IsList l items) (hne : l ≠ it) (hn : items.size ≤ sizeLine)
    (hQ : ∀ (h' : Heap) (tk : Nat) (acc : Array Value) (c' : Nat), (∀ b o, b ≠ it → s.heap.get? b = some o → h'.get? b = some o) → h'.get? s.heap.objs.size = some { cls := .type "list", data := .seq acc c' } → ItemsOf (fun i v => items[items.size - 1 - i]? = some v) acc items.size →
      Q (.ref s.heap.objs.size) { s with heap := h', toks := tk }) : wpAny (model prog w) A (call (.type "list") [.ref it]) Q E s := by
  refine callType_codes (Q₁ := fun obj s₁ => obj = .ref s.heap.objs.size ∧ s₁ = { s with heap := s.heap.push { cls := .type "list", data := .seq #[] } }) F.called_list (F.typeCall_list_1 _) F.entry_list_init
    (code_list_new _ ⟨rfl, rfl⟩) fun obj s₁ h₁ => ?_
  obtain ⟨rfl, rfl⟩ := h₁
  have hS : (s.heap.push { cls := .type "list", data := .seq #[] }).get? s.heap.objs.size = some { cls := .type "list", data := .seq #[] } := Heap.get?_push_size _ rfl
  refine ⟨⟨_, hS, rfl⟩, F.args_list_init_2 _ _, ?_⟩
  obtain ⟨oi, hoi, _⟩ := id hit
  obtain ⟨ol, hol, _⟩ := id hl
  have hSi : s.heap.objs.size ≠ it := Nat.ne_of_gt (Heap.lt_size hoi)
  have hSl : s.heap.objs.size ≠ l := Nat.ne_of_gt (Heap.lt_size hol)
  have hSf : s.heap.objs.size ∉ [it, l] := by simp only [List.mem_cons, List.not_mem_nil, or_false, not_or]; exact ⟨hSi, hSl⟩
  have W := (Walks.listRev (prog := prog) (w := w) (A := A.in1.in1) hh it l hne items).toS
  have hit1 : (s.heap.push { cls := .type "list", data := .seq #[] }).IsRevIter it l ((items.size : Int) - 1) := hit.at fun o e => Heap.get?_push_of_some _ e
  have hl1 : (s.heap.push { cls := .type "list", data := .seq #[] }).IsList l items := hl.push _
  have old : ∀ b o, s.heap.get? b = some o → (s.heap.push { cls := .type "list", data := .seq #[] }).get? b = some o := fun b o e => Heap.get?_push_of_some _ e
  have lt : ∀ b o, s.heap.get? b = some o → b ≠ s.heap.objs.size := fun b o e => Nat.ne_of_lt (Heap.lt_size e)
  generalize (s.heap.push { cls := .type "list", data := .seq #[] }) = g at hS hit1 hl1 old ⊢
  generalize s.heap.objs.size = S at hSi hSl hSf hS hQ lt ⊢
  show wpAny _ A.in1.in1 (do let old ← Builtin.List.listItems (.ref S); Builtin.List.listUpdate (.ref S) (fun _ => #[]); letGo old.toList.reverse; Builtin.List.listExtendWith (.ref S) (.ref it) .none) _ _ _
  refine wpAny_bind ?_
  unfold Builtin.List.listItems
  refine wpAny_bind (wpAny_seqItems hS rfl (wpAny_pure ?_))
  show wpAny _ A.in1.in1 (updateSeq S (fun _ => #[]) >>= fun _ => letGo (#[] : Array Value).toList.reverse >>= fun _ => Builtin.List.listExtendWith (.ref S) (.ref it) .none) _ _ _
  refine wpAny_bind (wpAny_updateSeq hS rfl ?_)
  have hS₂ := Heap.get?_update_self (Obj.mapSeq (fun _ => (#[] : Array Value))) hS rfl
  have oth : ∀ b o, b ≠ S → g.get? b = some o → (g.update S (Obj.mapSeq (fun _ => (#[] : Array Value)))).get? b = some o :=
    fun b o hb e => (Heap.get?_update_other _ _ (Ne.symm hb)).trans e
  have hit2 : (g.update S (Obj.mapSeq (fun _ => (#[] : Array Value)))).IsRevIter it l ((items.size : Int) - 1) := hit1.at fun o e => oth _ o (Ne.symm hSi) e
  have hl2 : (g.update S (Obj.mapSeq (fun _ => (#[] : Array Value)))).IsList l items := hl1.at fun o e => oth _ o (Ne.symm hSl) e
  refine wpAny_bind (wpAny_letGo ?_)
  generalize (g.update S (Obj.mapSeq (fun _ => (#[] : Array Value)))) = g2 at hS₂ oth hit2 hl2 ⊢
  have hT : ({ s with heap := g2 } : Shared).TypeIs (.ref it) "list_reverseiterator" := Heap.IsRevIter.typeIs (s := { s with heap := g2 }) hit2
  have h1 : Builtin.List.listSameRef (.ref S) (.ref it) = false := by simp [Builtin.List.listSameRef, hSi]
  unfold Builtin.List.listExtendWith
  refine wpAny_bind (wpAny_typeOf hT ?_)
  rw [if_neg (by rw [h1]; decide)]
  refine wpAny_bind (wpAny_pyIter_revIter (s := { s with heap := g2 }) hit2 ?_)
  refine wpAny_bind (wpAny_holding ?_)
  unfold Builtin.List.listLengthHint
  refine wpAny_bind (wpAny_specialOf hT nolen_lri ?_)
  show wpAny _ A.in1.in1 (specialOf (Value.ref it) (Str.ofString "__length_hint__") >>= _) _ _ _
  refine wpAny_bind (wpAny_specialOf hT hint_lri ?_)
  generalize hid : ("list_reverseiterator.__length_hint__" : String) = id0
  wp_delta
  rw [show splitId id0 = some ("list_reverseiterator", "__length_hint__") from by subst hid; decide +kernel]
  subst hid
  refine wpAny_bind (wpAny_isInstance (b := true) hT (by rw [isSubtype_type]; kernel_rfl) ?_)
  refine wpAny_pure ?_
  rw [if_neg (by decide)]
  have e0 : ((items.size : Nat) : Int) - 1 - ((0 : Nat) : Int) = (items.size : Int) - 1 := by omega
  refine wpAny_pure ⟨plainId_quiet F.plain_extend_loop _, codeAny_extend_loopS W hn _ hSf _ items.size 0 _ _ _ rfl (Nat.zero_le _) ⟨Nat.zero_le _, by rw [e0]; exact hit2, hl2⟩ hS₂ (ItemsOf.nil _) fun s' acc' c' hm hS' hacc => ?_⟩
  refine ⟨rfl, ?_⟩
  rw [Moved.eq_with hm]
  refine hQ s'.heap s'.toks acc' c' (fun b o hb e => hm.heap b o (fun hmem => ?_) (oth b o (lt b o e) (old b o e))) hS' hacc
  rcases List.mem_cons.mp hmem with e' | hmem
  · exact lt b o e e'
  · exact hb (List.mem_singleton.mp hmem)
end
def tLstRev (K : PySem.W.Frag) (te : TE) : TE := fun σ H Q => te σ H fun v H1 => ∃ (a : Addr) (xs : List V), v = .ref a ∧ SqL K H1 a xs ∧ ∀ q, H1 q = none → Q (.ref q) (upd H1 q (.lst xs.reverse))
section
variable {X : Cx} {cs : Cs} {a b : Expr} {pos : Pos} {ta tb : TED}
theorem pe_lstRev {e : Expr} {te : TE} {p p2 pos pos2 : Pos} (hc : X.calm = true) (hg : Gl X "list") (hm : X.mg "list" = none) (hg2 : Gl X "reversed") (hm2 : X.mg "reversed" = none) (he : PE X e te)
    (hs : starEach [e] X.env = (false, eval e X.env) :: starEach [] X.env := by rfl)
    (hs2 : starEach [.Call (.Name "reversed" p2) [e] [] pos2] X.env = (false, eval (.Call (.Name "reversed" p2) [e] [] pos2) X.env) :: starEach [] X.env := by rfl) :
    PE X (.Call (.Name "list" p) [.Call (.Name "reversed" p2) [e] [] pos2] [] pos) (tLstRev X.K te) := by
  refine ⟨fun pins s σ H Q I h => ?_⟩
  refine Call_ (ld_blt I hg hm boot_list (PyProof.Rows.callWith_type1 (args_cons (Call_ (ld_blt I hg2 hm2 PyProof.Rows.boot_reversed (PyProof.Rows.callWith_type1 (args_cons (thn (he.run pins s σ H _ I h) fun u s1 ⟨v, H1, I1, r1, q1⟩ => args_nil ?_) hs) hs rfl))) hs2) hs2 rfl))
  obtain ⟨a, xs, ev, hq, q⟩ := q1
  subst ev
  obtain rfl : u = Value.ref a := r1
  obtain ⟨its, rv, p', hz⟩ := I1.list hq
  refine call_reversed_list p'.isList (args_nil ?_)
  have k0 : ∀ b o, s1.heap.get? b = some o → (s1.heap.push (revObj a ((its.toArray.size : Int) - 1))).get? b = some o := fun b o e => Heap.get?_push_of_some _ e
  have I2 : Inv X pins σ H1 { s1 with heap := s1.heap.push (revObj a ((its.toArray.size : Int) - 1)) } := I1.kept (t' := s1.toks) k0
  have fp := I1.fpOk (H' := H1) (b := s1.heap.objs.size) (Nat.le_refl _) (I1.hok.fresh (Nat.le_refl _))
  have hl := p'.isList
  obtain ⟨ol, hol, _⟩ := id hl
  have hne : a ≠ s1.heap.objs.size := Nat.ne_of_lt (Heap.lt_size hol)
  have hn : its.toArray.size ≤ sizeLine := by rw [List.size_toArray, ← rv.length]; exact hz
  refine call_list_rev (s := { s1 with heap := s1.heap.push (revObj a ((its.toArray.size : Int) - 1)) }) (I1.ok.hd hc) ⟨_, Heap.get?_push_size _ rfl, rfl, rfl⟩ (hl.push _) hne hn fun h' tk acc c' hk hS' hi => ?_
  refine ⟨.ref _, upd H1 _ (.lst xs.reverse), I2.turnedNew (t' := tk) (ch := [s1.heap.objs.size]) (fun b o hb e => hk b o (fun z => hb (by simp [z])) e) (fun b hb => by rw [List.mem_singleton.mp hb]; exact fp) (Nat.le_refl _)
    (show ObjOk X.prog X.w _ _ _ (.lst xs.reverse) from ⟨by rw [List.length_reverse]; exact hz, acc.toList, c', vals_rev rv hi, by rw [Array.toArray_toList]; exact hS'⟩), rfl, q _ (I2.hok.fresh (Nat.le_refl _))⟩
def lrv_ (ta : TED) : TED := fun env Q => ta env fun d => ∃ m, ∃ ns : List Int, d = .lst m (ns.map .int) ∧ Q (.lst true (ns.reverse.map .int))
theorem vt_lrv {p p2 pos2 : Pos} (hc : X.calm = true) (hg : Gl X "list") (hm : X.mg "list" = none) (hg2 : Gl X "reversed") (hm2 : X.mg "reversed" = none) (ha : VP X cs a ta) (hs : starEach [a] X.env = (false, eval a X.env) :: starEach [] X.env := by rfl)
    (hs2 : starEach [.Call (.Name "reversed" p2) [a] [] pos2] X.env = (false, eval (.Call (.Name "reversed" p2) [a] [] pos2) X.env) :: starEach [] X.env := by rfl) : VT X cs (.Call (.Name "list" p) [.Call (.Name "reversed" p2) [a] [] pos2] [] pos) (lrv_ ta) :=
  ⟨pe_weak (pe_lstRev hc hg hm hg2 hm2 ha.run hs hs2) fun σ H Q ⟨e, env, Z, Fs, rl, QD, q, k⟩ => ⟨e, env, Z, Fs, rl, _, q, fun v H1 Z1 d F x r z => by
    obtain ⟨m, ns, rfl, z⟩ := z
    obtain ⟨p, ws, F', rfl, t, rr, _⟩ := R.lstv r
    have ev := RL.ints rr
    subst ev
    refine ⟨p, _, rfl, t, fun l hl => ?_⟩
    rw [← List.map_reverse]
    exact fin_lst (rl.ext x).za (fun u H' Z' d F' y r nd fre qd => k u H' Z' d F' (x.trans y) r nd (fun a m => ⟨x.same.free (fre a m).1, (fre a m).2⟩) qd) hl (RL.of_ints _) z⟩⟩
end
end VL
set_option maxHeartbeats 2000000
namespace VL
open PySem L2 PyProof.Rows
/-! ### defs that change their last argument, called with a slot's own datum -/
structure KnM (P : Program) (w : World) (K : PySem.W.Frag) (mg : Str → Option Value) (base : Heap) (cs : Cs) (x : Str) (k : Nat) (ps : List Str) (io : List Nat) (s : SpM) : Prop where
  ex : ∃ (f : Addr) (fd : FuncData), FnOk P w K mg base CX0 k f fd ps (spOfM K cs io s) ∧ mg x = some (.ref f) ∧ PySem.W.keepIn K (.ref f) = true ∧ Binds K fd ps []
/-- arguments that are looked at, the last one a slot -/
def tOfIo (K : PySem.W.Frag) (cs : Cs) (j : Nat) (t : TAD) : TA := fun σ H Q => ∃ e env Z Fs, Rel K cs e H Z σ env Fs ∧ ∃ QD, t env QD ∧
  ∀ vs H' Z' ds F v, Ext cs H H' Z Z' → RL K cs H' Z' ds vs F → σ[j]? = some (some v) → QD ds → Q (vs ++ [v]) H'
structure VIo (X : Cx) (cs : Cs) (j : Nat) (es : List Expr) (t : TAD) : Prop where
  run : PA X es (tOfIo X.K cs j t)
section
variable {X : Cx} {cs : Cs} {L : List Nat} {a b : Expr} {es : List Expr} {pos : Pos} {ta : TED} {u : TAD}
def ioEnd (j : Nat) : TAD := fun env Q => (∃ d, env[j]? = some (some d)) ∧ Q []
theorem vio_last (j : Nat) (hv : PE X a (tVar j)) (hs : starEach [a] X.env = (false, eval a X.env) :: starEach [] X.env := by rfl) : VIo X cs j [a] (ioEnd j) :=
  ⟨pa_weak (pa_cons hv pa_nil hs) fun σ H Q ⟨e, env, Z, Fs, rl, QD, ⟨⟨d, hd⟩, q⟩, k⟩ => by
    obtain ⟨v, hv, _⟩ := rl.slot j d hd
    exact ⟨v, hv, k [] H Z [] [] v (Ext.refl H Z) ⟨rfl, rfl⟩ hv q⟩⟩
theorem vio_cons {j : Nat} (ha : VP X cs a ta) (h : VIo X cs j es u) (hs : starEach (a :: es) X.env = (false, eval a X.env) :: starEach es X.env := by rfl) : VIo X cs j (a :: es) (cons_ ta u) :=
  ⟨pa_weak (pa_cons ha.run h.run hs) fun σ H Q ⟨e, env, Z, Fs, rl, QD, q, k⟩ => ⟨e, env, Z, Fs, rl, _, q, fun v H1 Z1 d F x r q1 => ⟨e, env, Z1, Fs, rl.ext x, _, q1, fun vs H2 Z2 ds G w x2 r2 hw q2 =>
    k (v :: vs) H2 Z2 (d :: ds) (F ++ G) w (x.trans x2) ⟨v, vs, F, G, rfl, r.ext x2, r2, rfl⟩ hw q2⟩⟩⟩
/-- a fresh value that is frozen where it is looked at -/
def frzv_ (ta : TED) : TED := fun env Q => ta env fun d => Q (frz d)
theorem vp_frzv (ha : VT X cs a ta) : VP X cs a (frzv_ ta) :=
  ⟨pe_weak ha.run fun σ H Q ⟨e, env, Z, Fs, rl, QD, q, k⟩ => ⟨e, env, Z, Fs, rl, _, q, fun v H' Z' d F x r nd fre qd =>
    k v H' (fun a => Z' a ∨ a ∈ F) (frz d) [] (Ext.frz rl x (R.alloc d v F r) fre) (R.fr (fun _ h => .inl h) d v F (fun _ m => .inr m) r) qd⟩⟩
/-- x = f(.., slot j): j's datum is another one behind -/
def setM_ (i j n : Nat) (s : SpM) (u : TAD) : TSD := fun E env => u env fun ds => noOwnL ds = true ∧ ds.length = n ∧ ∃ d, env[j]? = some (some d) ∧ s (ds ++ [d]) fun r ds' => ∃ pre d', ds' = pre ++ [d'] ∧ pre.length = n ∧ E.nx ((env.set j (some d')).set i (some r))
theorem RL.snoc {K : PySem.W.Frag} {H : Hp} {Z : Addr → Prop} {d : D} {v : V} {F : List Addr} (h : R K cs H Z d v F) : ∀ {ds : List D} {vs : List V}, RL K cs H Z ds vs [] → RL K cs H Z (ds ++ [d]) (vs ++ [v]) F
  | [], vs, r => by
    obtain ⟨rfl, _⟩ := r
    exact ⟨v, [], F, [], rfl, h, ⟨rfl, rfl⟩, by simp⟩
  | x :: xs, vs, ⟨w, vs', F1, F2, e, r1, r2, ef⟩ => by
    have e1 : F1 = [] := by
      have : F1 ++ F2 = [] := ef.symm
      exact (List.append_eq_nil_iff.mp this).1
    have e2 : F2 = [] := by
      have : F1 ++ F2 = [] := ef.symm
      exact (List.append_eq_nil_iff.mp this).2
    subst e1 e2
    rw [e]
    exact ⟨w, vs' ++ [v], [], F, rfl, r1, RL.snoc h r2, by simp⟩
theorem RL.last {K : PySem.W.Frag} {H : Hp} {Z : Addr → Prop} {d : D} {v : V} : ∀ {ds : List D} {vs : List V} {F : List Addr}, RL K cs H Z (ds ++ [d]) (vs ++ [v]) F → ds.length = vs.length → ∃ F1, R K cs H Z d v F1 ∧ ∀ a ∈ F1, a ∈ F ∧ (F.Nodup → F1.Nodup)
  | [], vs, F, ⟨w, vs', F1, F2, e, r1, r2, ef⟩, hl => by
    have : vs = [] := List.length_eq_zero_iff.mp hl.symm
    subst this
    have e : [v] = w :: vs' := e
    cases e
    exact ⟨F1, r1, fun a m => ⟨by rw [ef]; exact List.mem_append_left _ m, fun nd => by rw [ef] at nd; exact (List.nodup_append.mp nd).1⟩⟩
  | x :: xs, [], F, _, hl => by simp at hl
  | x :: xs, y :: vs, F, ⟨w, vs', F1, F2, e, r1, r2, ef⟩, hl => by
    have e : y :: (vs ++ [v]) = w :: vs' := e
    cases e
    obtain ⟨G, g1, g2⟩ := RL.last r2 (by simpa using hl)
    exact ⟨G, g1, fun a m => ⟨by rw [ef]; exact List.mem_append_right _ (g2 a m).1, fun nd => by rw [ef] at nd; exact (g2 a m).2 (List.nodup_append.mp nd).2.1⟩⟩
theorem Rel.ioch {K : PySem.W.Frag} {e : En} {H H' : Hp} {Z Z' : Addr → Prop} {σ : L2.St} {env : Env} {Fs : Nat → List Addr} (r : Rel K cs e H Z σ env Fs) {j : Nat} {d d' : D} {v : V} {G : List Addr} (hd : env[j]? = some (some d)) (hσ : σ[j]? = some (some v)) (rd : R K cs H' Z' d' v G)
    (up : ∀ a, Z a → Z' a) (zn : ∀ a, Z' a → Z a ∨ a ∈ Fs j ∨ H a = none) (za : ∀ a, Z' a → ∃ o, H' a = some o) (kp : ∀ a o, H a = some o → NT o → a ∉ Fs j → H' a = some o) (kt : ∀ a o, H a = some o → a ∉ Fs j → ∃ o', H' a = some o') (tb : LamX.Tabs cs.tb H') (nd : G.Nodup) (hG : ∀ a ∈ G, ¬ Z' a ∧ (a ∈ Fs j ∨ H a = none)) :
    Rel K cs e H' Z' σ (env.set j (some d')) (fun k => if k = j then G else Fs k) := by
  have hj : j < env.length := (List.getElem?_eq_some_iff.mp hd).1
  obtain ⟨v', hv', rv⟩ := r.slot j d hd
  have noF : ∀ b, H b = none → ∀ k, b ∉ Fs k := fun b hb k m => by
    obtain ⟨o, w⟩ := r.alloc m
    rw [hb] at w; cases w
  have keep : ∀ (F : List Addr), (∀ b ∈ F, b ∉ Fs j) → ∀ dm vm, R K cs H Z dm vm F → R K cs H' Z' dm vm F := fun F hF dm vm rm => R.keep up dm vm F (fun b o eb nb hbm => kp b o eb nb fun z => by
    rcases hbm with hb | hb | hb
    · exact hF b hb z
    · exact r.dz j b z hb
    · obtain ⟨o', eo, mo⟩ := R.allocM d v' (Fs j) rv b z
      rw [eb] at eo; cases eo
      exact hb (Mu.mut mo)) rm
  refine ⟨fun k x q => ?_, fun k q => ?_, fun k => ?_, fun k l a kl m => ?_, fun k a m => ?_, za, fun k a m => ?_, fun a o h nt w => ?_, fun a o h => ?_, tb, fun a z => up a (r.z0 a z), fun a z => ?_, r.io, fun p m => keep [] (fun b m => by cases m) _ _ (r.gs p m), by simp [r.len]⟩
  · by_cases ek : k = j
    · subst ek
      rw [List.getElem?_set_self hj] at q
      cases q
      exact ⟨v, hσ, by rw [if_pos rfl]; exact rd⟩
    · rw [List.getElem?_set_ne (Ne.symm ek)] at q
      obtain ⟨w, h1, h2⟩ := r.slot k x q
      exact ⟨w, h1, by rw [if_neg ek]; exact keep (Fs k) (fun b mb => r.dj k j b ek mb) x w h2⟩
  · show (if k = j then G else Fs k) = []
    have ek : k ≠ j := fun w => q d' (by rw [w, List.getElem?_set_self hj])
    rw [if_neg ek]
    exact r.off k fun x w => q x (by rw [List.getElem?_set_ne (Ne.symm ek)]; exact w)
  · show (if k = j then G else Fs k).Nodup
    by_cases ek : k = j
    · rw [if_pos ek]; exact nd
    · rw [if_neg ek]; exact r.nd k
  · show a ∉ (if l = j then G else Fs l)
    have m : a ∈ (if k = j then G else Fs k) := m
    by_cases ek : k = j
    · rw [if_pos ek] at m
      have el : l ≠ j := fun z => kl (ek.trans z.symm)
      rw [if_neg el]
      rcases (hG a m).2 with z | z
      · exact r.dj j l a (Ne.symm el) z
      · exact noF a z l
    · rw [if_neg ek] at m
      by_cases el : l = j
      · rw [if_pos el]
        intro n
        rcases (hG a n).2 with z | z
        · exact r.dj k j a ek m z
        · exact noF a z k m
      · rw [if_neg el]; exact r.dj k l a kl m
  · have m : a ∈ (if k = j then G else Fs k) := m
    by_cases ek : k = j
    · rw [if_pos ek] at m; exact (hG a m).1
    · rw [if_neg ek] at m
      intro z
      rcases zn a z with z | z | z
      · exact r.dz k a m z
      · exact r.dj k j a ek m z
      · exact noF a z k m
  · have m : a ∈ (if k = j then G else Fs k) := m
    by_cases ek : k = j
    · rw [if_pos ek] at m
      rcases (hG a m).2 with z | z
      · exact r.own j a z
      · exact r.free0 z
    · rw [if_neg ek] at m; exact r.own k a m
  · refine kp a o (r.fr a o h nt w) nt fun z => ?_
    rcases r.own j a z with q | q
    · exact w q
    · rw [h] at q; cases q
  · rcases r.th a o h with w | ⟨o1, w⟩
    · exact .inl w
    · by_cases z : a ∈ Fs j
      · rcases r.own j a z with q | q
        · exact .inl q
        · rw [h] at q; cases q
      · exact .inr (kt a o1 w z)
  · rcases zn a z with z | z | z
    · exact r.z1 a z
    · rcases r.own j a z with q | q
      · exact .inr (.inr q)
      · exact .inr (.inl q)
    · rcases r.free0 z with q | q
      · exact .inr (.inr q)
      · exact .inr (.inl q)
theorem vs_callM (i j n : Nat) {s : SpM} {k : Nat} {ps : List Str} {x y : Str} {p pos' pos2 : Pos} (h : KnM X.prog X.w X.K X.mg X.base cs x k ps [n] s) (hr : Room k X.A) (hg : Gl X x) (ha : VIo X cs j (a :: es) u) (hN : X.N.Nodup) (hi : X.N[i]? = some y := by rfl) (hx : Loc X.env.scope y := by first | exact .inl rfl | exact .inr rfl) (hL : i ∉ L := by decide) (hij : i ≠ j := by decide)
    (hdb : (x == ("__debug__" : Str)) = false := by decide) (he : starEach (a :: es) X.env = (false, eval a X.env) :: starEach es X.env := by rfl) (hpl : (backTo pos2 (starEach es X.env)).any (·.1) = false := by rfl)
    (hs : swapsWith (.Call (.Name x p) (a :: es) [] pos2) (some (.Name y pos')) pos.line X.env = pure false := by rfl)
    (hf : X.fn y = true ∨ X.env.scope.names.lookup y = some .local := by first | exact .inl rfl | exact .inr rfl | assumption) : VS X cs L (.Assign [.Name y pos'] (.Call (.Name x p) (a :: es) [] pos2) pos) (setM_ i j n s u) := by
  obtain ⟨f, fd, F, hm, hk, hb⟩ := h.ex
  refine ⟨fun e hl => ps_weak (ps_set hN hi hx (pe_call F hr hg hm hk hb .nil pass0 ha.run hdb he hpl) hs hf) fun D σ H ⟨env, Z, Fs, E, rl, q, ok⟩ => ⟨e, env, Z, Fs, rl, _, q, fun vs H1 Z1 ds F1 w x1 r1 hw ⟨no, hn, d, hd, q1⟩ => ?_⟩⟩
  show spOfM X.K cs [n] s ((vs ++ [w]) ++ []) H1 _ E0
  rw [List.append_nil]
  have rl1 := rl.ext x1
  have F0 : F1 = [] := RL.noF ds vs F1 no r1
  subst F0
  obtain ⟨v, hv, rv⟩ := rl1.slot j d hd
  have ew : v = w := by rw [hw] at hv; exact (Option.some.inj (Option.some.inj hv)).symm
  subst ew
  have lv : vs.length = ds.length := r1.len
  refine ⟨rl1.tb, Z1, ds ++ [d], Fs j, rl1.za, RL.snoc rv r1, rl1.nd j, fun a m => rl1.dz j a m, fun m dm hm' hni => ?_, _, q1, ?_⟩
  · have hlt : m < ds.length := by
      have := (List.getElem?_eq_some_iff.mp hm').1
      rw [List.length_append, List.length_singleton] at this
      have : m ≠ n := fun z => hni (by rw [z]; exact List.mem_singleton.mpr rfl)
      omega
    rw [List.getElem?_append_left hlt] at hm'
    rw [noOwnL_all, List.all_eq_true] at no
    exact no dm (List.mem_of_getElem? hm')
  · rintro v2 H2 Z2 r ds' Fr F' up zn za kp kt tb2 RLd Rr nd hF ⟨pre, d', rfl, hpl2, q2⟩
    obtain ⟨nd1, nd2, nd3⟩ := List.nodup_append.mp nd
    obtain ⟨G, rG, hG⟩ := RL.last RLd (by omega)
    have GF : ∀ a ∈ G, a ∈ F' := fun a m => (hG a m).1
    have Gnd : G.Nodup := by
      cases G with
      | nil => exact List.nodup_nil
      | cons g gs => exact (hG g List.mem_cons_self).2 nd1
    have rl2 := rl1.ioch hd hw rG up zn za kp kt tb2 Gnd fun a m => hF a (List.mem_append_left _ (GF a m))
    obtain ⟨Fs', rl3⟩ := rl2.sets (i := i) (d := r) (v := v2) (F := Fr) Rr nd2 (fun a m => by
      have h1 := hF a (List.mem_append_right _ m)
      refine ⟨h1.1, ?_, fun l hl' n => ?_⟩
      · rcases h1.2 with z | z
        · exact rl1.own j a z
        · exact rl1.free0 z
      · have n : a ∈ (if l = j then G else Fs l) := n
        by_cases el : l = j
        · rw [if_pos el] at n
          exact nd3 a (GF a n) a m rfl
        · rw [if_neg el] at n
          rcases h1.2 with z | z
          · exact rl1.dj l j a el n z
          · obtain ⟨o, w⟩ := rl1.alloc n
            rw [z] at w; cases w) (fun p m w => hL (w ▸ hl p m))
    exact ok.nx _ H2 Z2 _ Fs' rl3 q2
end
end VL
set_option maxHeartbeats 2000000
namespace VL
open PySem L2 PyProof.Rows
section
variable {X : Cx} {cs : Cs} {L : List Nat} {a b : Expr} {es : List Expr} {pos : Pos} {ta : TED} {u : TAD} {i : Nat} {tp : TPD}
/-- raise: never come to -/
def never_ : TSD := fun _ _ => False
theorem vs_raise {c : Option Expr} {o : Option Expr} : VS X cs L (.Raise c o pos) never_ := ⟨fun e _ => ⟨fun _ _ _ _ _ _ ⟨_, _, _, _, _, q, _⟩ => q.elim⟩⟩
/-- x = P.pop(): the last thing, which holds nothing of its own -/
def popv_ (j i : Nat) (tp : TPD) : TSD := fun E env => tp env fun put d => ∃ xs y, d = .lst true (xs ++ [y]) ∧ noOwn y = true ∧ E.nx ((env.set i (some (put (.lst true xs)))).set j (some y))
theorem vs_popv (j : Nat) {x : Str} {pos' : Pos} (h : PE X a (tBM0 X.K "list" rPop (tOfPa X.K cs i tp))) (hN : X.N.Nodup) (hi : X.N[j]? = some x := by rfl) (hx : Loc X.env.scope x := by first | exact .inl rfl | exact .inr rfl) (hL : j ∉ L := by decide) (hs : swapsWith a (some (.Name x pos')) pos.line X.env = pure false := by rfl)
    (hf : X.fn x = true ∨ X.env.scope.names.lookup x = some .local := by first | exact .inl rfl | exact .inr rfl | assumption) : VS X cs L (.Assign [.Name x pos'] a pos) (popv_ j i tp) :=
  ⟨fun e hl => ps_weak (ps_set hN hi hx h hs hf) fun D σ H ⟨env, Z, Fs, E, rl, q, ok⟩ => ⟨e, env, Z, Fs, rl, _, q, fun u H1 Z1 put d0 d v x1 hσ hd fo ⟨xs, y, ex, ny, z⟩ => by
    subst ex
    have rl1 := rl.ext x1
    obtain ⟨p, vs, rfl, t, hl1, up⟩ := rl1.foc_lstw hd hσ fo
    obtain ⟨F1, Fe, F2, hF, ⟨p2, ws, F0, e1, t1, r0, hFe⟩, _⟩ := fo
    cases e1
    rw [t] at t1
    cases t1
    have pz : ¬ Z1 p := rl1.dz i p (by rw [hF, hFe]; simp)
    obtain ⟨G1, G2, g1, g2, _⟩ := RL.cut2 xs.length r0
    have lv : vs.length = xs.length + 1 := by rw [hl1, List.length_append]; rfl
    rw [List.take_left' rfl] at g1
    rw [List.drop_left' rfl] at g2
    obtain ⟨w, vs2, Fa, Fb, ew, rw1, rn, _⟩ := g2
    have e0 : Fa = [] := R.noF y w Fa ny rw1
    subst e0
    have elast : vs[vs.length - 1]? = some w := by
      have h2 : (vs.drop xs.length)[0]? = some w := by rw [ew]; rfl
      rw [List.getElem?_drop] at h2
      rw [← h2, lv]; rfl
    refine ⟨.inl ⟨rfl, vs, SqL.of t⟩, p, vs, w, rfl, rfl, t, elast, ?_⟩
    obtain ⟨Fs', r'⟩ := up xs vs.dropLast [] (fun a m => by cases m) fun F' r nd' dj => by
      obtain ⟨F'', h1, h2, h3⟩ := RL.dl r nd'
      rw [List.dropLast_concat] at h1
      exact ⟨F'', h1, h2, fun a m => .inl (h3 a m)⟩
    have rw2 : R X.K cs (upd H1 p (.lst vs.dropLast)) Z1 y w [] := R.keep (fun _ h => h) y w [] (fun b o eb nb hbm => by
      have : b ≠ p := fun eq => by
        subst eq
        rcases hbm with m | m | m
        · cases m
        · exact pz m
        · rw [t] at eb
          cases eb
          exact m trivial
      rw [upd_ne this]; exact eb) rw1
    obtain ⟨Fs2, r2⟩ := r'.sets (i := j) rw2 List.nodup_nil (fun a m => by cases m) fun p m w => hL (w ▸ hl p m)
    exact ok.nx _ _ Z1 _ Fs2 r2 z⟩⟩
end
section
variable {K : PySem.W.Frag} {cs : Cs}
/-- + where a tuple may be empty -/
def rAll6 (K : PySem.W.Frag) : R2 := fun x y H Q => rAll5 K x y H Q ∨ rCatA K x y H Q
theorem op_add6 {X : Cx} : OpR X (binaryOp .Add) (rAll6 X.K) := op_add5.or op_catA
def dAddA : D → D → (D → Prop) → Prop
  | .int i, .int j, Q => Q (.int (i + j))
  | .str i, .str j, Q => i.length + j.length ≤ sizeLine ∧ Q (.str (i ++ j))
  | .lst _ xs, .lst _ ys, Q => noOwnL xs = true ∧ noOwnL ys = true ∧ xs.length + ys.length ≤ sizeLine ∧ Q (.lst true (xs ++ ys))
  | .tup xs, .tup ys, Q => noOwnL xs = true ∧ noOwnL ys = true ∧ xs.length + ys.length ≤ sizeLine ∧ Q (.tup (xs ++ ys))
  | _, _, _ => False
theorem od_addA : OD K cs (rAll6 K) dAddA := by
  intro H Z Q QD x y v w F G za rx ry q k
  have old : dAddG x y QD → rAll6 K v w H Q := fun h => .inl (od_addG H Z Q QD x y v w F G za rx ry h k)
  cases x with
  | lst m xs => cases y <;> first | exact old q | exact False.elim q
  | int i => cases y <;> first | exact old q | exact False.elim q
  | str i => cases y <;> first | exact old q | exact False.elim q
  | tup xs =>
    cases y with
    | tup ys =>
      obtain ⟨a, vs, e, t, r⟩ := rx
      obtain ⟨b, ws, e2, t2, r2⟩ := ry
      obtain ⟨n1, n2, l, q⟩ := q
      have h1 := RL.noF0 r n1
      have h2 := RL.noF0 r2 n2
      refine .inr ⟨a, b, vs, ws, e, e2, t, t2, by rw [r.len, r2.len]; exact l, fun z => ?_, fun _ z => ?_, fun _ _ p hp => fin_tup k hp (RL.app0 h1 h2) q⟩
      · have : xs = [] := by have := r.len; rw [z] at this; exact List.length_eq_zero_iff.mp this.symm
        subst this
        rw [List.nil_append] at q
        exact fin_at (d := .tup ys) k ⟨b, ws, rfl, t2, h2⟩ q
      · have : ys = [] := by have := r2.len; rw [z] at this; exact List.length_eq_zero_iff.mp this.symm
        subst this
        rw [List.append_nil] at q
        exact fin_at (d := .tup xs) k ⟨a, vs, rfl, t, h1⟩ q
    | _ => exact False.elim q
  | _ => cases y <;> exact False.elim q
end
end VL
set_option maxHeartbeats 2000000
namespace VL
open PySem L2 PyProof.Rows
section
variable {X : Cx} {cs : Cs} {L : List Nat} {a b c : Expr} {es : List Expr} {pos : Pos} {ta : TED} {tg : Expr}
/-- range(i, j, 2) -/
def rngCD (lo c : Int) (n : Nat) : List D := (List.range n).map fun i : Nat => .int (lo + (i : Nat) * c)
def rng3_ (u : TAD) : TAD := fun env Q => u env fun ds => ∃ i j : Int, ds = [.int i, .int j, .int 2] ∧ (-(2 ^ 60) ≤ i ∧ i < 2 ^ 60 ∧ -(2 ^ 60) ≤ j ∧ j < 2 ^ 60) ∧ Q (rngCD i 2 ((j - i + 1) / 2).toNat)
theorem itok_rngC {K : PySem.W.Frag} {lo c : Int} {n : Nat} : ItOk K cs (Itc lo c n) [] (rngCD lo c n) := by
  refine ⟨fun _ => True, _, (by unfold rngCD; rw [List.length_map, List.length_range]; exact walk_rangeC), fun _ _ _ => trivial, fun i H Z x H' hi _ y => ?_⟩
  obtain ⟨rfl, rfl⟩ := y
  have hi' : i < n := by unfold rngCD at hi; rw [List.length_map, List.length_range] at hi; exact hi
  exact ⟨Ext.refl _ _, .int (lo + (i : Nat) * c), by unfold rngCD; simp [hi'], ⟨rfl, rfl⟩⟩
theorem rgC_two {i j : Int} (h : -(2 ^ 60) ≤ i ∧ i < 2 ^ 60 ∧ -(2 ^ 60) ≤ j ∧ j < 2 ^ 60) : RgC i j 2 ((j - i + 1) / 2).toNat := by
  refine ⟨by decide, by decide, ?_, ?_⟩
  · unfold Builtin.Range.small
    simp only [Builtin.Range.rangeSize, Builtin.Range.rangeFitsLong, Bool.and_eq_true, Bool.or_eq_true, decide_eq_true_eq, beq_iff_eq, show ((2 : Int) > 0) by decide, if_true]
    split <;> omega
  · unfold Builtin.Range.rangeSize
    simp only [show ((2 : Int) > 0) by decide, if_true]
    split <;> omega
theorem vi_rng3 {u : TAD} {p : Pos} (hg : Gl X "range") (hm : X.mg "range" = none) (ha : VAr X cs [a, b, c] u) (hs : starEach [a, b, c] X.env = (false, eval a X.env) :: starEach [b, c] X.env := by rfl) (hpl : (backTo pos (starEach [b, c] X.env)).any (·.1) = false := by rfl) :
    VI X cs tg (.Call (.Name "range" p) [a, b, c] [] pos) (rng3_ u) :=
  ⟨pi_weak (pi_range3 hg hm ha.run hs hpl) fun σ H Q ⟨e, env, Z, Fs, rl, QD, q, k⟩ => ⟨e, env, Z, Fs, rl, _, q, fun vs H1 Z1 ds F x1 rv ⟨i, j, ed, hb, q1⟩ => by
    subst ed
    obtain ⟨v1, vs1, F1, F2, rfl, r1, rv, _⟩ := rv
    obtain ⟨v2, vs2, F3, F4, rfl, r2, rv, _⟩ := rv
    obtain ⟨v3, vs3, F5, F6, rfl, r3, rv, _⟩ := rv
    cases rv.1
    cases r1.1
    cases r2.1
    cases r3.1
    exact ⟨i, j, 2, _, rfl, rgC_two hb, k _ H1 Z1 [] _ x1 (fun p m => by cases m) itok_rngC q1⟩⟩⟩
end
section
variable {cs : Cs}
/-- str of a number or of a text -/
theorem cr_strA {X : Cx} : CallR X (.type "str") (fun xs H Q => (∃ i, xs = [V.int i] ∧ i.natAbs.log2 < 1920 ∧ Q (.str (toString i)) H) ∨ ∃ a, xs = [V.str a] ∧ Q (.str a) H) := call_str_int.or SkE.call_str_str
def dStrA1 : D → (D → Prop) → Prop
  | .int i, Q => i.natAbs.log2 < 1920 ∧ Q (.str (toString i))
  | .str s, Q => Q (.str s)
  | _, _ => False
abbrev dStrA := one_ dStrA1
theorem cd_strA {K : PySem.W.Frag} : CD K cs (fun xs H Q => (∃ i, xs = [V.int i] ∧ i.natAbs.log2 < 1920 ∧ Q (.str (toString i)) H) ∨ ∃ a, xs = [V.str a] ∧ Q (.str a) H) dStrA := cd_one fun H Z Q QD d v F za rv q k => by
  cases d with
  | int i => cases rv.1; exact .inl ⟨i, rfl, q.1, fin_at (d := .str _) k ⟨rfl, rfl⟩ q.2⟩
  | str s => cases rv.1; exact .inr ⟨s, rfl, fin_at (d := .str _) k ⟨rfl, rfl⟩ q⟩
  | _ => exact False.elim q
end
end VL
set_option maxHeartbeats 2000000
namespace VL
open PySem L2 PyProof.Rows
section
variable {X : Cx} {cs : Cs} {a b : Expr} {pos : Pos} {ta tb : TED}
/-! ### xs.index(z), a list of texts -/
def lidxS_ (ta tb : TED) : TED := fun env Q => ta env fun d => ∃ m, ∃ ns : List Str, d = .lst m (ns.map .str) ∧ tb env fun y => ∃ k, y = .str k ∧ k ∈ ns ∧ Q (.int (ns.idxOf k : Nat))
theorem idxS_at : ∀ {ns : List Str} {k : Str}, k ∈ ns → ns[ns.idxOf k]? = some k ∧ ∀ m : Nat, m < ns.idxOf k → ns[m]? ≠ some k
  | [], _, h => by cases h
  | n :: ns, k, h => by
    by_cases e : n = k
    · subst e
      rw [List.idxOf_cons_self]
      exact ⟨rfl, fun m h => absurd h (Nat.not_lt_zero _)⟩
    · have h' : k ∈ ns := (List.mem_cons.mp h).resolve_left fun w => e w.symm
      obtain ⟨h1, h2⟩ := idxS_at h'
      have : (n :: ns).idxOf k = ns.idxOf k + 1 := by unfold List.idxOf; rw [List.findIdx_cons, show (n == k) = false from beq_false_of_ne e]; rfl
      rw [this]
      refine ⟨by simpa using h1, fun m hm => ?_⟩
      cases m with
      | zero => simpa using e
      | succ m => simpa using h2 m (by omega)
theorem vt_lidxS {apos : Pos} (ha : VP X cs a ta) (hb : VP X cs b tb) (hbase : attributeBase a "index" X.env (eval a X.env) = eval a X.env := by rfl)
    (hfew : ((backTo pos (starEach [b] X.env)).all (fun x => !x.1) && (backToKw pos (keywordEach [] X.env)).all (fun x => x.1.isSome)
      && decide ([b].length + ([] : List Keyword).length + (if ([] : List Keyword).isEmpty then 0 else 1) < 30)) = true := by rfl)
    (hline : (apos.endLine == pos.line) = true := by rfl) (hs : starEach [b] X.env = (false, eval b X.env) :: starEach [] X.env := by rfl) (hplain : (backTo pos (starEach [] X.env)).any (·.1) = false := by rfl) :
    VT X cs (.Call (.Attribute a "index" apos) [b] [] pos) (lidxS_ ta tb) :=
  ⟨pe_weak (pe_bm PySem.F.plainAttrs_list PySem.F.slot_list_index PySem.F.type_list_index mt_index ha.run (pa_cons hb.run pa_nil hs) hbase hfew hline hs hplain) fun σ H Q ⟨e, env, Z, Fs, rl, QD, q, k⟩ => ⟨e, env, Z, Fs, rl, _, q, fun v H1 Z1 d F x1 rv q1 => by
    obtain ⟨m, ns, rfl, q1⟩ := q1
    obtain ⟨p, ws, F', rfl, t, rr, _⟩ := R.lstv rv
    have ev := RL.strs rr
    subst ev
    refine ⟨.inl ⟨rfl, _, t⟩, e, env, Z1, Fs, rl.ext x1, _, q1, fun w H2 Z2 d2 G x2 rw q2 => ?_⟩
    obtain ⟨j, rfl, mj, q2⟩ := q2
    cases rw.1
    obtain ⟨h1, h2⟩ := idxS_at mj
    have xx := x1.trans x2
    obtain ⟨p2, ws2, F2, e2, t2, rr2, _⟩ := R.lstv (rv.ext x2)
    cases e2
    have ev2 := RL.strs rr2
    subst ev2
    refine ⟨p, ns.map V.str, .str j, ns.idxOf j, .str j, rfl, rfl, t2, rfl, ?_, ?_, ?_, ?_, ?_⟩
    · rw [List.all_map, List.all_eq_true]
      exact fun _ _ => rfl
    · rw [List.getElem?_map, h1]; rfl
    · exact decide_eq_true rfl
    · intro m' z' hm' hz'
      rw [List.getElem?_map] at hz'
      cases hq : ns[m']? with
      | none => rw [hq] at hz'; cases hz'
      | some y =>
        rw [hq] at hz'
        cases hz'
        exact decide_eq_false fun e => h2 m' hm' (by rw [hq, e])
    · exact k _ H2 Z2 (.int _) [] xx ⟨rfl, rfl⟩ List.nodup_nil (fun a m => (by cases m)) q2⟩⟩
end
/-! ### a text again and again -/
def repS (z : Str) (k : Nat) : Str := ⟨(List.replicate k z.cps.toList).flatten.toArray⟩
def rMulS : R2 := fun x y H Q => ∃ z k, x = .str z ∧ y = .int k ∧ 0 ≤ k ∧ k ≤ 1000 ∧ z.length ≤ 1000 ∧ Q (.str (repS z k.toNat)) H
theorem rep_fold (z : Array Nat) : ∀ (k : Nat) (acc : Array Nat), (List.replicate k z).foldl (· ++ ·) acc = acc ++ ((List.replicate k z.toList).flatten).toArray
  | 0, acc => by simp
  | k + 1, acc => by
    rw [List.replicate_succ, List.foldl_cons, rep_fold z k, List.replicate_succ, List.flatten_cons]
    apply Array.ext'
    simp
theorem op_mulS {X : Cx} : OpR X (binaryOp .Mult) rMulS := by
  intro pins s σ H x y v u Q I rx ry h
  obtain ⟨z, k, rfl, rfl, h0, h1, hz, q⟩ := h
  obtain ⟨t, rfl⟩ := rx
  obtain ⟨t', rfl⟩ := ry
  obtain ⟨n, rfl⟩ := Int.eq_ofNat_of_zero_le h0
  rw [Int.toNat_natCast] at q
  have hlen : z.length * n ≤ 1000 * 1000 := Nat.mul_le_mul hz (show n ≤ 1000 by omega)
  refine PySem.P.mul_str ?_ (fun h2 _ => ?_) (fun _ _ => ?_) ?_
  · rw [decide_eq_false (by omega), decide_eq_false (by omega)]; rfl
  · have := Int.le_ediv_of_mul_le (a := (z.length : Int)) (b := 2 ^ 63 - 1) (c := (n : Int)) (by omega) (by
      rw [← Int.natCast_mul]
      omega)
    omega
  · rw [Int.toNat_natCast]
    show decide (_ > _) = false
    refine decide_eq_false ?_
    rw [sizeLine_eq]
    omega
  · have fin : ∀ tk r, r = repS z n → EP X pins σ Q (.str r tk) { s with toks := s.toks + 1 } := fun tk r e => by
      subst e
      exact ⟨.str (repS z n), H, I.tok _, ⟨_, rfl⟩, q⟩
    split
    · rename_i hk
      have : n = 0 := by omega
      subst this
      exact ⟨by decide, fin _ _ rfl⟩
    · split
      · rename_i hk h1
        refine ⟨.str (repS z n), H, I, ⟨t, ?_⟩, q⟩
        congr 1
        rw [Bool.or_eq_true, beq_iff_eq, beq_iff_eq] at h1
        rcases h1 with e | e
        · have : n = 1 := by omega
          subst this
          unfold repS
          simp
        · unfold repS
          have : z.cps.toList = [] := by
            rw [← List.length_eq_zero_iff, Array.length_toList]
            exact e
          have e2 : z = ⟨#[]⟩ := by
            obtain ⟨c⟩ := z
            congr 1
            exact Array.toList_inj.mp (by simpa using this)
          subst e2
          simp
      · refine ⟨?_, fin _ _ ?_⟩
        · show Array.size _ ≤ _
          rw [Int.toNat_natCast, rep_fold, sizeLine_eq, ← Array.length_toList]
          have e : (List.replicate n z.cps.toList).flatten.length = n * z.length := by
            have g : ∀ (m : Nat) (l : List Nat), (List.replicate m l).flatten.length = m * l.length := fun m l => by
              induction m with
              | zero => simp
              | succ m ih => rw [List.replicate_succ, List.flatten_cons, List.length_append, ih, Nat.succ_mul, Nat.add_comm]
            rw [g, Array.length_toList]
            rfl
          have e2 : (#[] ++ ((List.replicate n z.cps.toList).flatten).toArray : Array Nat).toList = (List.replicate n z.cps.toList).flatten := by simp
          rw [e2, e, Nat.mul_comm]
          omega
        · unfold repS
          congr 1
          rw [Int.toNat_natCast, rep_fold]
          simp
def dMulS : D → D → (D → Prop) → Prop
  | .str z, .int k, Q => 0 ≤ k ∧ k ≤ 1000 ∧ z.length ≤ 1000 ∧ Q (.str (repS z k.toNat))
  | _, _, _ => False
theorem od_mulS {K : PySem.W.Frag} {cs : Cs} : OD K cs rMulS dMulS := by
  intro H Z Q QD x y v w F G za rx ry q k
  cases x <;> cases y <;> first
    | exact False.elim q
    | exact ⟨_, _, rx.1, ry.1, q.1, q.2.1, q.2.2.1, fin_at (d := .str _) k ⟨rfl, rfl⟩ q.2.2.2⟩
end VL
set_option maxHeartbeats 4000000
namespace VL
open PySem L2
/- _law_chain(elders, mood); calls: ; slots: 0:elders 1:mood 2:found 3:at -/
def w_L_chain : TSD :=
  (sq_ (set_ 2 (lst_ nil_))
  (sq_ (set_ 3 (tTk (op2 dIx (v_ 0) (v_ 1))))
  (sq_ (while_ (bl_ (op2 (dEq true) (v_ 3) (un_ dNeg (c_ (.int 1))))) (sq_ (app_ 2 (tTk (v_ 3)))
  (set_ 3 (tTk (op2 dIx (v_ 0) (v_ 3))))))
  (retv_ 2))))
/- _law_elders_by(items); calls: _law_chain; slots: 0:items 1:elders 2:item 3:last 4:roads -/
def w_L_elders_by_2 (sp0 : SpD) : TSD :=
  (sq_ (set_ 1 (lst_ (cons_ (un_ dNeg (c_ (.int 1))) nil_)))
  (sq_ (for_ 2 (it_ (tTk (v_ 0))) (ifs_ (bl_ (op2 dLt (op2 dMod (op2 dIx (v_ 2) (c_ (.int 0))) (c_ (.int 8))) (c_ (.int 3)))) (sq_ (set_ 3 (op2 dSub (call_ dLen (cons_ (v_ 1) nil_)) (c_ (.int 1))))
  (sq_ (set_ 4 (op2 dAddG (lst_ (cons_ (tTk (v_ 3)) nil_)) (callD sp0 (cons_ (v_ 1) (cons_ (v_ 3) nil_)))))
  (sq_ (ifs_ (bl_ (op2 dGt (call_ dLen (cons_ (v_ 4) nil_)) (c_ (.int 12)))) (set_ 4 (sl_ (v_ 4) (po_ (c_ (.int 1))) no_)) nx_)
  (app_ 1 (tTk (op2 dIx (v_ 4) (op2 dMod (op2 dFdiv (op2 dIx (v_ 2) (c_ (.int 0))) (c_ (.int 8))) (call_ dLen (cons_ (v_ 4) nil_))))))))) nx_))
  (retv_ 1)))
/- _law_cell_at(script, k); calls: ; slots: 0:script 1:k -/
def w_L_cell_at : TSD :=
  (sq_ (ifs_ (bl_ (op2 dLt (v_ 1) (call_ dLen (cons_ (v_ 0) nil_)))) (ret_ (tTk (op2 dIx (v_ 0) (v_ 1)))) nx_)
  (ret_ (c_ (.int 0))))
/- _law_name_by(number, used); calls: ; slots: 0:number 1:used 2:letters 3:words 4:more 5:name 6:rest -/
def w_L_name_by : TSD :=
  (sq_ (set_ 2 (c_ (.str "abcdefghijklmnopqrstuvwxyz0123456789")))
  (sq_ (set_ 3 (sm1_ dSplit (c_ (.str "all and box call do far if in leaf near on one open out put say shut then to")) (c_ (.str " "))))
  (sq_ (for_ 4 (rng1_ (cons_ (op2 dAddG (call_ dLen (cons_ (v_ 1) nil_)) (c_ (.int 20))) nil_)) (sq_ (set_ 5 (tTk (op2 dIx (v_ 2) (op2 dMod (op2 dAddG (v_ 0) (v_ 4)) (c_ (.int 26))))))
  (sq_ (set_ 6 (op2 dFdiv (op2 dAddG (v_ 0) (v_ 4)) (c_ (.int 26))))
  (sq_ (while_ (bl_ (op2 dGt (v_ 6) (c_ (.int 0)))) (sq_ (set_ 5 (op2 dAddG (v_ 5) (op2 dIx (v_ 2) (op2 dMod (v_ 6) (c_ (.int 36))))))
  (set_ 6 (op2 dFdiv (v_ 6) (c_ (.int 36))))))
  (ifs_ (and_ (bl_ (op2 (dIn true) (v_ 5) (v_ 1))) (bl_ (op2 (dIn true) (v_ 5) (v_ 3)))) (retv_ 5) nx_)))))
  (ret_ (c_ (.str ""))))))
/- _law_names_by(script, many); calls: _law_cell_at, _law_name_by; slots: 0:script 1:many 2:base 3:step 4:found 5:k -/
def w_L_names_by (sp0 : SpD) (sp1 : SpD) : TSD :=
  (sq_ (set_ 2 (op2 dMod (callD sp0 (cons_ (v_ 0) (cons_ (c_ (.int 0)) nil_))) (op2 dMul (c_ (.int 26)) (op2 dPow (c_ (.int 36)) (c_ (.int 10))))))
  (sq_ (set_ 3 (tTk (op2 dIx (lst_ (cons_ (c_ (.int 1)) (cons_ (c_ (.int 26)) (cons_ (c_ (.int 936)) (cons_ (c_ (.int 33696)) (cons_ (c_ (.int 1213056)) nil_)))))) (op2 dMod (callD sp0 (cons_ (v_ 0) (cons_ (c_ (.int 1)) nil_))) (c_ (.int 5))))))
  (sq_ (set_ 4 (lst_ nil_))
  (sq_ (for_ 5 (rng1_ (cons_ (v_ 1) nil_)) (app_ 4 (callD sp1 (cons_ (op2 dAddG (v_ 2) (op2 dMul (v_ 5) (v_ 3))) (cons_ (v_ 4) nil_)))))
  (retv_ 4)))))
/- _law_kinds_by(elders, cells); calls: ; slots: 0:elders 1:cells 2:kinds 3:starts 4:mood 5:near 6:at 7:start -/
def w_L_kinds_by : TSD :=
  (sq_ (set_ 2 (lst_ nil_))
  (sq_ (set_ 3 (lst_ nil_))
  (sq_ (for_ 4 (rng1_ (cons_ (call_ dLen (cons_ (v_ 0) nil_)) nil_)) (sq_ (set_ 5 (lc_ 6 (rng1_ (cons_ (call_ dLen (cons_ (v_ 0) nil_)) nil_)) (bl_ (op2 (dEq false) (op2 dIx (v_ 0) (v_ 6)) (v_ 4))) (tTk (v_ 6))))
  (sq_ (set_ 7 (un_ dNeg (c_ (.int 1))))
  (sq_ (ifs_ (bl_ (op2 (dEq false) (v_ 5) (lst_ nil_))) (app_ 2 (c_ (.str "leaf"))) (ifs_ (bl_ (op2 (dEq false) (op2 dMod (op2 dIx (v_ 1) (v_ 4)) (c_ (.int 2))) (c_ (.int 1)))) (app_ 2 (c_ (.str "all"))) (sq_ (app_ 2 (c_ (.str "one")))
  (set_ 7 (tTk (op2 dIx (v_ 5) (op2 dMod (op2 dFdiv (op2 dIx (v_ 1) (v_ 4)) (c_ (.int 2))) (call_ dLen (cons_ (v_ 5) nil_)))))))))
  (app_ 3 (tTk (v_ 7)))))))
  (retm_ (.lst true) [2, 3] (cons_ (v_ 2) (cons_ (v_ 3) nil_))))))
/- _law_number_by(cell); calls: ; slots: 0:cell 1:size -/
def w_L_number_by : TSD :=
  (sq_ (set_ 1 (op2 dMod (op2 dFdiv (v_ 0) (c_ (.int 2))) (op2 dPow (c_ (.int 10)) (c_ (.int 30)))))
  (sq_ (ifs_ (bl_ (op2 (dEq false) (op2 dMod (v_ 0) (c_ (.int 2))) (c_ (.int 1)))) (ret_ (op2 dSub (c_ (.int 0)) (v_ 1))) nx_)
  (retv_ 1)))
/- _law_deed_by(item, boxes, names); calls: _law_number_by; slots: 0:item 1:boxes 2:names 3:pick 4:name 5:term -/
def w_L_deed_by (sp0 : SpD) : TSD :=
  (sq_ (set_ 3 (op2 dFdiv (op2 dIx (v_ 0) (c_ (.int 0))) (c_ (.int 24))))
  (sq_ (set_ 4 (tTk (op2 dIx (v_ 2) (op2 dMod (op2 dIx (v_ 0) (c_ (.int 1))) (call_ dLen (cons_ (v_ 2) nil_))))))
  (sq_ (set_ 5 (tup_ (cons_ (op2 dSub (op2 dMod (v_ 3) (op2 dAddG (v_ 1) (c_ (.int 1)))) (c_ (.int 1))) (cons_ (callD sp0 (cons_ (op2 dFdiv (op2 dIx (v_ 0) (c_ (.int 1))) (c_ (.int 3))) nil_)) nil_))))
  (sq_ (ifs_ (bl_ (op2 (dEq false) (op2 dMod (op2 dFdiv (op2 dIx (v_ 0) (c_ (.int 0))) (c_ (.int 8))) (c_ (.int 3))) (c_ (.int 0)))) (retm_ .tup [4] (cons_ (c_ (.str "call")) (cons_ (v_ 4) nil_))) nx_)
  (sq_ (ifs_ (and_ (bl_ (op2 (dEq false) (op2 dMod (op2 dFdiv (op2 dIx (v_ 0) (c_ (.int 0))) (c_ (.int 8))) (c_ (.int 3))) (c_ (.int 1)))) (bl_ (op2 dGt (v_ 1) (c_ (.int 0))))) (retm_ .tup [5] (cons_ (c_ (.str "put")) (cons_ (op2 dMod (op2 dFdiv (v_ 3) (c_ (.int 4))) (v_ 1)) (cons_ (v_ 5) nil_)))) nx_)
  (retm_ .tup [4, 5] (cons_ (c_ (.str "say")) (cons_ (v_ 4) (cons_ (v_ 5) nil_)))))))))
/- _law_way_by(item, source, many, names); calls: ; slots: 0:item 1:source 2:many 3:names 4:target 5:mode -/
def w_L_way_by : TSD :=
  (sq_ (set_ 4 (op2 dSub (op2 dMod (op2 dIx (v_ 0) (c_ (.int 1))) (op2 dAddG (v_ 2) (c_ (.int 1)))) (c_ (.int 1))))
  (sq_ (set_ 5 (c_ (.str "new")))
  (sq_ (ifs_ (bl_ (op2 (dEq true) (v_ 4) (un_ dNeg (c_ (.int 1))))) (set_ 5 (tTk (op2 dIx (lst_ (cons_ (c_ (.str "new")) (cons_ (c_ (.str "near")) (cons_ (c_ (.str "far")) nil_)))) (op2 dMod (op2 dFdiv (op2 dIx (v_ 0) (c_ (.int 0))) (c_ (.int 8))) (c_ (.int 3)))))) nx_)
  (retm_ .tup [4, 5] (cons_ (tTk (v_ 1)) (cons_ (tTk (op2 dIx (v_ 3) (op2 dMod (op2 dFdiv (op2 dIx (v_ 0) (c_ (.int 0))) (c_ (.int 24))) (call_ dLen (cons_ (v_ 3) nil_))))) (cons_ (tup_ nil_) (cons_ (tup_ nil_) (cons_ (v_ 4) (cons_ (v_ 5) nil_))))))))))
/- _law_ask_by(item, boxes, many); calls: _law_number_by; slots: 0:item 1:boxes 2:many 3:pick 4:one 5:other -/
def w_L_ask_by (sp0 : SpD) : TSD :=
  (sq_ (set_ 3 (op2 dFdiv (op2 dIx (v_ 0) (c_ (.int 0))) (c_ (.int 8))))
  (sq_ (ifs_ (bl_ (op2 dGt (op2 dMod (v_ 3) (c_ (.int 6))) (c_ (.int 3)))) (ret_ (tup_ (cons_ (tTk (op2 dIx (lst_ (cons_ (c_ (.str "open")) (cons_ (c_ (.str "shut")) nil_))) (op2 dSub (op2 dMod (v_ 3) (c_ (.int 6))) (c_ (.int 4))))) (cons_ (op2 dMod (op2 dIx (v_ 0) (c_ (.int 1))) (v_ 2)) nil_)))) nx_)
  (sq_ (set_ 4 (tup_ (cons_ (op2 dSub (op2 dMod (op2 dFdiv (v_ 3) (c_ (.int 6))) (op2 dAddG (v_ 1) (c_ (.int 1)))) (c_ (.int 1))) (cons_ (callD sp0 (cons_ (op2 dIx (v_ 0) (c_ (.int 1))) nil_)) nil_))))
  (sq_ (set_ 5 (tup_ (cons_ (op2 dSub (op2 dMod (op2 dFdiv (v_ 3) (c_ (.int 24))) (op2 dAddG (v_ 1) (c_ (.int 1)))) (c_ (.int 1))) (cons_ (callD sp0 (cons_ (op2 dMod (op2 dMul (op2 dIx (v_ 0) (c_ (.int 1))) (c_ (.int 48271))) (c_ (.int 2147483647))) nil_)) nil_))))
  (retm_ .tup [4, 5] (cons_ (tTk (op2 dIx (lst_ (cons_ (c_ (.str "<")) (cons_ (c_ (.str "<=")) (cons_ (c_ (.str "=")) (cons_ (c_ (.str "!=")) nil_))))) (op2 dMod (v_ 3) (c_ (.int 6))))) (cons_ (v_ 4) (cons_ (v_ 5) nil_))))))))
/- _law_owns_by(items, boxes, many, names); calls: _law_deed_by, _law_way_by, _law_ask_by; slots: 0:items 1:boxes 2:many 3:names 4:ins 5:outs 6:ways 7:item 8:kind 9:mood 10:way -/
def w_L_owns_by (sp0 : SpD) (sp1 : SpD) (sp2 : SpD) : TSD :=
  (sq_ (set_ 4 (lst_ (cons_ (tup_ nil_) nil_)))
  (sq_ (set_ 5 (lst_ (cons_ (tup_ nil_) nil_)))
  (sq_ (set_ 6 (lst_ nil_))
  (sq_ (for_ 7 (it_ (tTk (v_ 0))) (sq_ (set_ 8 (op2 dMod (op2 dIx (v_ 7) (c_ (.int 0))) (c_ (.int 8))))
  (sq_ (set_ 9 (op2 dSub (call_ dLen (cons_ (v_ 4) nil_)) (c_ (.int 1))))
  (ifs_ (bl_ (op2 dLt (v_ 8) (c_ (.int 3)))) (sq_ (app_ 4 (tup_ nil_))
  (app_ 5 (tup_ nil_))) (ifs_ (bl_ (op2 (dEq false) (v_ 8) (c_ (.int 3)))) (pset_ 4 (pv_ 4) (v_ 9) (op2 dAddA (op2 dIx (v_ 4) (v_ 9)) (tup_ (cons_ (callD sp0 (cons_ (v_ 7) (cons_ (v_ 1) (cons_ (v_ 3) nil_)))) nil_)))) (ifs_ (bl_ (op2 (dEq false) (v_ 8) (c_ (.int 4)))) (pset_ 5 (pv_ 5) (v_ 9) (op2 dAddA (op2 dIx (v_ 5) (v_ 9)) (tup_ (cons_ (callD sp0 (cons_ (v_ 7) (cons_ (v_ 1) (cons_ (v_ 3) nil_)))) nil_)))) (ifs_ (or_ (bl_ (op2 (dEq false) (v_ 8) (c_ (.int 5)))) (or_ (bl_ (op2 (dEq false) (v_ 6) (lst_ nil_))) (bl_ (op2 (dEq true) (op2 dIx (op2 dIx (v_ 6) (un_ dNeg (c_ (.int 1)))) (c_ (.int 0))) (v_ 9))))) (app_ 6 (callD sp1 (cons_ (v_ 7) (cons_ (v_ 9) (cons_ (v_ 2) (cons_ (v_ 3) nil_)))))) (ifs_ (bl_ (op2 (dEq false) (v_ 8) (c_ (.int 6)))) (sq_ (set_ 10 (tTk (op2 dIx (v_ 6) (un_ dNeg (c_ (.int 1))))))
  (pset_ 6 (pv_ 6) (un_ dNeg (c_ (.int 1))) (op2 dAddA (op2 dAddA (sl_ (v_ 10) no_ (po_ (c_ (.int 2)))) (tup_ (cons_ (op2 dAddA (op2 dIx (v_ 10) (c_ (.int 2))) (tup_ (cons_ (callD sp2 (cons_ (v_ 7) (cons_ (v_ 1) (cons_ (v_ 2) nil_)))) nil_))) nil_))) (sl_ (v_ 10) (po_ (c_ (.int 3))) no_)))) (sq_ (set_ 10 (tTk (op2 dIx (v_ 6) (un_ dNeg (c_ (.int 1))))))
  (pset_ 6 (pv_ 6) (un_ dNeg (c_ (.int 1))) (op2 dAddA (op2 dAddA (sl_ (v_ 10) no_ (po_ (c_ (.int 3)))) (tup_ (cons_ (op2 dAddA (op2 dIx (v_ 10) (c_ (.int 3))) (tup_ (cons_ (callD sp0 (cons_ (v_ 7) (cons_ (v_ 1) (cons_ (v_ 3) nil_)))) nil_))) nil_))) (sl_ (v_ 10) (po_ (c_ (.int 4))) no_))))))))))))
  (retm_ (.lst true) [4, 5, 6] (cons_ (v_ 4) (cons_ (v_ 5) (cons_ (v_ 6) nil_))))))))
/- _law_parts_by(script); calls: _law_cell_at, _law_elders_by, _law_names_by, _law_number_by, _law_kinds_by, _law_owns_by; slots: 0:script 1:head 2:items 3:k 4:elders 5:names 6:boxes 7:shapes 8:item 9:owns -/
def w_L_parts_by (sp0 : SpD) (sp1 : SpD) (sp2 : SpD) (sp3 : SpD) (sp4 : SpD) (sp5 : SpD) : TSD :=
  (sq_ (set_ 1 (op2 dFdiv (callD sp0 (cons_ (v_ 0) (cons_ (c_ (.int 1)) nil_))) (c_ (.int 5))))
  (sq_ (set_ 2 (lc_ 3 (rng3_ (cons_ (c_ (.int 2)) (cons_ (call_ dMin (cons_ (call_ dLen (cons_ (v_ 0) nil_)) (cons_ (c_ (.int 82)) nil_))) (cons_ (c_ (.int 2)) nil_)))) yes_ (tup_ (cons_ (tTk (op2 dIx (v_ 0) (v_ 3))) (cons_ (callD sp0 (cons_ (v_ 0) (cons_ (op2 dAddG (v_ 3) (c_ (.int 1))) nil_))) nil_)))))
  (sq_ (set_ 4 (callD sp1 (cons_ (v_ 2) nil_)))
  (sq_ (set_ 5 (callD sp2 (cons_ (v_ 0) (cons_ (op2 dAddG (call_ dLen (cons_ (v_ 4) nil_)) (c_ (.int 4))) nil_))))
  (sq_ (set_ 6 (lc_ 3 (rng1_ (cons_ (op2 dMod (v_ 1) (c_ (.int 4))) nil_)) yes_ (tup_ (cons_ (tTk (op2 dIx (v_ 5) (v_ 3))) (cons_ (callD sp3 (cons_ (callD sp0 (cons_ (v_ 0) (cons_ (op2 dAddG (c_ (.int 3)) (op2 dMul (c_ (.int 2)) (v_ 3))) nil_))) nil_)) nil_)))))
  (sq_ (frz_ 2 (set_ 7 (callD sp4 (cons_ (v_ 4) (cons_ (op2 dAddG (frzv_ (lst_ (cons_ (op2 dFdiv (v_ 1) (c_ (.int 4))) nil_))) (lc_ 8 (it_ (tTk (v_ 2))) (bl_ (op2 dLt (op2 dMod (op2 dIx (v_ 8) (c_ (.int 0))) (c_ (.int 8))) (c_ (.int 3)))) (tTk (op2 dIx (v_ 8) (c_ (.int 1)))))) nil_)))))
  (sq_ (set_ 9 (callD sp5 (cons_ (v_ 2) (cons_ (call_ dLen (cons_ (v_ 6) nil_)) (cons_ (call_ dLen (cons_ (v_ 4) nil_)) (cons_ (v_ 5) nil_))))))
  (frz_ 9 (frz_ 4 (frz_ 7 (frz_ 5 (frz_ 6 (ret_ (op2 dAddG (frzv_ (lst_ (cons_ (tTk (v_ 6)) (cons_ (sl_ (v_ 5) no_ (po_ (call_ dLen (cons_ (v_ 4) nil_)))) (cons_ (tTk (op2 dIx (v_ 7) (c_ (.int 0)))) (cons_ (tTk (v_ 4)) (cons_ (tTk (op2 dIx (v_ 7) (c_ (.int 1)))) nil_))))))) (v_ 9)))))))))))))))
/- Tree.__init__(self, kinds, elders, starts); calls: ; slots: 0:self 1:kinds 2:elders 3:starts -/
def w_Tree_init : TSD :=
  (sq_ (fset_ 0 (pv_ 0) "kinds" (call_ dList (cons_ (v_ 1) nil_)))
  (sq_ (fset_ 0 (pv_ 0) "elders" (call_ dList (cons_ (v_ 2) nil_)))
  (fset_ 0 (pv_ 0) "starts" (call_ dList (cons_ (v_ 3) nil_)))))
/- Chart.__init__(self, boxes, names, tree, ins, outs, ways); calls: Tree; slots: 0:self 1:boxes 2:names 3:tree 4:ins 5:outs 6:ways -/
def w_Chart_init (sp0 : SpM) : TSD :=
  (sq_ (fset_ 0 (pv_ 0) "boxes" (call_ dList (cons_ (v_ 1) nil_)))
  (sq_ (fset_ 0 (pv_ 0) "names" (call_ dList (cons_ (v_ 2) nil_)))
  (sq_ (fset_ 0 (pv_ 0) "tree" (makeD "Tree" sp0 (cons_ (un_ (dFld "kinds") (v_ 3)) (cons_ (un_ (dFld "elders") (v_ 3)) (cons_ (un_ (dFld "starts") (v_ 3)) nil_)))))
  (sq_ (fset_ 0 (pv_ 0) "ins" (call_ dList (cons_ (v_ 4) nil_)))
  (sq_ (fset_ 0 (pv_ 0) "outs" (call_ dList (cons_ (v_ 5) nil_)))
  (fset_ 0 (pv_ 0) "ways" (call_ dList (cons_ (v_ 6) nil_))))))))
/- _law_chart_by(parts); calls: Tree, Chart; slots: 0:parts 1:tree -/
def w_L_chart_by (sp0 : SpM) (sp1 : SpM) : TSD :=
  (sq_ (set_ 1 (makeD "Tree" sp0 (cons_ (call_ dList (cons_ (op2 dIx (v_ 0) (c_ (.int 2))) nil_)) (cons_ (call_ dList (cons_ (op2 dIx (v_ 0) (c_ (.int 3))) nil_)) (cons_ (call_ dList (cons_ (op2 dIx (v_ 0) (c_ (.int 4))) nil_)) nil_)))))
  (ret_ (makeD "Chart" sp1 (cons_ (call_ dList (cons_ (op2 dIx (v_ 0) (c_ (.int 0))) nil_)) (cons_ (call_ dList (cons_ (op2 dIx (v_ 0) (c_ (.int 1))) nil_)) (cons_ (v_ 1) (cons_ (call_ dList (cons_ (op2 dIx (v_ 0) (c_ (.int 5))) nil_)) (cons_ (call_ dList (cons_ (op2 dIx (v_ 0) (c_ (.int 6))) nil_)) (cons_ (call_ dList (cons_ (op2 dIx (v_ 0) (c_ (.int 7))) nil_)) nil_)))))))))
/- term_text(chart, term); calls: ; slots: 0:chart 1:term 2:name -/
def w_term_text : TSD :=
  (sq_ (ifs_ (bl_ (op2 (dEq false) (op2 dIx (v_ 1) (c_ (.int 0))) (un_ dNeg (c_ (.int 1))))) (ret_ (call_ dStr (cons_ (op2 dIx (v_ 1) (c_ (.int 1))) nil_))) nx_)
  (sq_ (set_ 2 (tTk (op2 dIx (op2 dIx (un_ (dFld "boxes") (v_ 0)) (op2 dIx (v_ 1) (c_ (.int 0)))) (c_ (.int 0)))))
  (sq_ (ifs_ (bl_ (op2 dGt (op2 dIx (v_ 1) (c_ (.int 1))) (c_ (.int 0)))) (ret_ (op2 dAddG (op2 dAddG (v_ 2) (c_ (.str "+"))) (call_ dStr (cons_ (op2 dIx (v_ 1) (c_ (.int 1))) nil_)))) nx_)
  (sq_ (ifs_ (bl_ (op2 dLt (op2 dIx (v_ 1) (c_ (.int 1))) (c_ (.int 0)))) (ret_ (op2 dAddG (v_ 2) (call_ dStr (cons_ (op2 dIx (v_ 1) (c_ (.int 1))) nil_)))) nx_)
  (retv_ 2)))))
/- deed_text(chart, deed); calls: term_text; slots: 0:chart 1:deed -/
def w_deed_text (sp0 : SpD) : TSD :=
  (sq_ (ifs_ (bl_ (op2 (dEq false) (op2 dIx (v_ 1) (c_ (.int 0))) (c_ (.str "put")))) (ret_ (op2 dAddG (op2 dAddG (op2 dAddG (c_ (.str "put ")) (op2 dIx (op2 dIx (un_ (dFld "boxes") (v_ 0)) (op2 dIx (v_ 1) (c_ (.int 1)))) (c_ (.int 0)))) (c_ (.str " "))) (callD sp0 (cons_ (v_ 0) (cons_ (op2 dIx (v_ 1) (c_ (.int 2))) nil_))))) nx_)
  (sq_ (ifs_ (bl_ (op2 (dEq false) (op2 dIx (v_ 1) (c_ (.int 0))) (c_ (.str "say")))) (ret_ (op2 dAddG (op2 dAddG (op2 dAddG (c_ (.str "say ")) (op2 dIx (v_ 1) (c_ (.int 1)))) (c_ (.str " "))) (callD sp0 (cons_ (v_ 0) (cons_ (op2 dIx (v_ 1) (c_ (.int 2))) nil_))))) nx_)
  (ret_ (op2 dAddG (c_ (.str "call ")) (op2 dIx (v_ 1) (c_ (.int 1)))))))
/- ask_text(chart, ask); calls: term_text; slots: 0:chart 1:ask -/
def w_ask_text (sp0 : SpD) : TSD :=
  (sq_ (ifs_ (bl_ (op2 (dIn false) (op2 dIx (v_ 1) (c_ (.int 0))) (tup_ (cons_ (c_ (.str "open")) (cons_ (c_ (.str "shut")) nil_))))) (ret_ (op2 dAddG (op2 dAddG (op2 dIx (v_ 1) (c_ (.int 0))) (c_ (.str " "))) (op2 dIx (un_ (dFld "names") (v_ 0)) (op2 dIx (v_ 1) (c_ (.int 1)))))) nx_)
  (ret_ (op2 dAddG (op2 dAddG (op2 dAddG (op2 dAddG (callD sp0 (cons_ (v_ 0) (cons_ (op2 dIx (v_ 1) (c_ (.int 1))) nil_))) (c_ (.str " "))) (op2 dIx (v_ 1) (c_ (.int 0)))) (c_ (.str " "))) (callD sp0 (cons_ (v_ 0) (cons_ (op2 dIx (v_ 1) (c_ (.int 2))) nil_))))))
/- way_text(chart, way); calls: ask_text, deed_text; slots: 0:chart 1:way 2:row 3:ask 4:deed -/
def w_way_text (sp0 : SpD) (sp1 : SpD) : TSD :=
  (sq_ (set_ 2 (op2 dAddG (c_ (.str "on ")) (op2 dIx (v_ 1) (c_ (.int 1)))))
  (sq_ (ifs_ (bl_ (op2 dGt (call_ dLen (cons_ (op2 dIx (v_ 1) (c_ (.int 2))) nil_)) (c_ (.int 0)))) (set_ 2 (op2 dAddG (op2 dAddG (v_ 2) (c_ (.str " if "))) (sm1_ dJoin (c_ (.str " and ")) (lc_ 3 (it_ (tTk (op2 dIx (v_ 1) (c_ (.int 2))))) yes_ (callD sp0 (cons_ (v_ 0) (cons_ (v_ 3) nil_))))))) nx_)
  (sq_ (ifs_ (bl_ (op2 dGt (call_ dLen (cons_ (op2 dIx (v_ 1) (c_ (.int 3))) nil_)) (c_ (.int 0)))) (set_ 2 (op2 dAddG (op2 dAddG (v_ 2) (c_ (.str " do "))) (sm1_ dJoin (c_ (.str " then ")) (lc_ 4 (it_ (tTk (op2 dIx (v_ 1) (c_ (.int 3))))) yes_ (callD sp1 (cons_ (v_ 0) (cons_ (v_ 4) nil_))))))) nx_)
  (sq_ (ifs_ (bl_ (op2 (dEq true) (op2 dIx (v_ 1) (c_ (.int 4))) (un_ dNeg (c_ (.int 1))))) (sq_ (set_ 2 (op2 dAddG (op2 dAddG (v_ 2) (c_ (.str " to "))) (op2 dIx (un_ (dFld "names") (v_ 0)) (op2 dIx (v_ 1) (c_ (.int 4))))))
  (ifs_ (bl_ (op2 (dEq true) (op2 dIx (v_ 1) (c_ (.int 5))) (c_ (.str "new")))) (set_ 2 (op2 dAddG (op2 dAddG (v_ 2) (c_ (.str " "))) (op2 dIx (v_ 1) (c_ (.int 5))))) nx_)) nx_)
  (retv_ 2)))))
/- own_rows(chart, mood); calls: deed_text, way_text; slots: 0:chart 1:mood 2:rows 3:deed 4:way -/
def w_own_rows (sp0 : SpD) (sp1 : SpD) : TSD :=
  (sq_ (set_ 2 (lc_ 3 (it_ (tTk (op2 dIx (un_ (dFld "ins") (v_ 0)) (v_ 1)))) yes_ (op2 dAddG (c_ (.str "in ")) (callD sp0 (cons_ (v_ 0) (cons_ (v_ 3) nil_))))))
  (sq_ (set_ 2 (op2 dAddG (v_ 2) (lc_ 3 (it_ (tTk (op2 dIx (un_ (dFld "outs") (v_ 0)) (v_ 1)))) yes_ (op2 dAddG (c_ (.str "out ")) (callD sp0 (cons_ (v_ 0) (cons_ (v_ 3) nil_)))))))
  (ret_ (op2 dAddG (v_ 2) (lc_ 4 (it_ (tTk (un_ (dFld "ways") (v_ 0)))) (bl_ (op2 (dEq false) (op2 dIx (v_ 4) (c_ (.int 0))) (v_ 1))) (callD sp1 (cons_ (v_ 0) (cons_ (v_ 4) nil_))))))))
/- above(tree, mood); calls: ; slots: 0:tree 1:mood 2:found 3:at -/
def w_above : TSD :=
  (sq_ (set_ 2 (lst_ nil_))
  (sq_ (set_ 3 (tTk (op2 dIx (un_ (dFld "elders") (v_ 0)) (v_ 1))))
  (sq_ (while_ (bl_ (op2 (dEq true) (v_ 3) (un_ dNeg (c_ (.int 1))))) (sq_ (app_ 2 (tTk (v_ 3)))
  (set_ 3 (tTk (op2 dIx (un_ (dFld "elders") (v_ 0)) (v_ 3))))))
  (retv_ 2))))
/- depth(tree, mood); calls: above; slots: 0:tree 1:mood -/
def w_depth (sp0 : SpD) : TSD :=
  (ret_ (call_ dLen (cons_ (callD sp0 (cons_ (v_ 0) (cons_ (v_ 1) nil_))) nil_)))
/- mood_text(chart, mood); calls: ; slots: 0:chart 1:mood 2:row -/
def w_mood_text : TSD :=
  (sq_ (set_ 2 (op2 dAddG (op2 dAddG (op2 dIx (un_ (dFld "kinds") (un_ (dFld "tree") (v_ 0))) (v_ 1)) (c_ (.str " "))) (op2 dIx (un_ (dFld "names") (v_ 0)) (v_ 1))))
  (sq_ (ifs_ (bl_ (op2 (dEq false) (op2 dIx (un_ (dFld "kinds") (un_ (dFld "tree") (v_ 0))) (v_ 1)) (c_ (.str "one")))) (set_ 2 (op2 dAddG (op2 dAddG (v_ 2) (c_ (.str " "))) (op2 dIx (un_ (dFld "names") (v_ 0)) (op2 dIx (un_ (dFld "starts") (un_ (dFld "tree") (v_ 0))) (v_ 1))))) nx_)
  (retv_ 2)))
/- shown(chart); calls: depth, mood_text, own_rows; slots: 0:chart 1:rows 2:box 3:mood 4:blanks 5:row -/
def w_shown (sp0 : SpD) (sp1 : SpD) (sp2 : SpD) : TSD :=
  (sq_ (set_ 1 (lc_ 2 (it_ (tTk (un_ (dFld "boxes") (v_ 0)))) yes_ (op2 dAddG (op2 dAddG (op2 dAddG (c_ (.str "box ")) (op2 dIx (v_ 2) (c_ (.int 0)))) (c_ (.str " "))) (call_ dStr (cons_ (op2 dIx (v_ 2) (c_ (.int 1))) nil_)))))
  (sq_ (for_ 3 (rng1_ (cons_ (call_ dLen (cons_ (un_ (dFld "names") (v_ 0)) nil_)) nil_)) (sq_ (set_ 4 (op2 dMulS (c_ (.str " ")) (callD sp0 (cons_ (un_ (dFld "tree") (v_ 0)) (cons_ (v_ 3) nil_)))))
  (sq_ (app_ 1 (op2 dAddG (v_ 4) (callD sp1 (cons_ (v_ 0) (cons_ (v_ 3) nil_)))))
  (for_ 5 (it_ (callD sp2 (cons_ (v_ 0) (cons_ (v_ 3) nil_)))) (app_ 1 (op2 dAddG (op2 dAddG (v_ 4) (c_ (.str " "))) (v_ 5)))))))
  (ret_ (sm1_ dJoin (c_ (.str "\n")) (v_ 1)))))
/- _law_term_text(boxes, term); calls: ; slots: 0:boxes 1:term 2:name -/
def w_L_term_text : TSD :=
  (sq_ (ifs_ (bl_ (op2 (dEq false) (op2 dIx (v_ 1) (c_ (.int 0))) (un_ dNeg (c_ (.int 1))))) (ret_ (call_ dStr (cons_ (op2 dIx (v_ 1) (c_ (.int 1))) nil_))) nx_)
  (sq_ (set_ 2 (tTk (op2 dIx (v_ 0) (op2 dIx (v_ 1) (c_ (.int 0))))))
  (sq_ (ifs_ (bl_ (op2 (dEq false) (op2 dIx (v_ 1) (c_ (.int 1))) (c_ (.int 0)))) (retv_ 2) nx_)
  (ret_ (op2 dAddG (op2 dAddG (v_ 2) (op2 dIx (lst_ (cons_ (c_ (.str "-")) (cons_ (c_ (.str "+")) nil_))) (call_ dToInt (cons_ (op2 dGt (op2 dIx (v_ 1) (c_ (.int 1))) (c_ (.int 0))) nil_)))) (call_ dStr (cons_ (call_ dAbs (cons_ (op2 dIx (v_ 1) (c_ (.int 1))) nil_)) nil_)))))))
/- _law_deed_text(boxes, deed); calls: _law_term_text; slots: 0:boxes 1:deed 2:name -/
def w_L_deed_text (sp0 : SpD) : TSD :=
  (sq_ (ifs_ (bl_ (op2 (dEq false) (op2 dIx (v_ 1) (c_ (.int 0))) (c_ (.str "call")))) (ret_ (op2 dAddG (c_ (.str "call ")) (op2 dIx (v_ 1) (c_ (.int 1))))) nx_)
  (sq_ (set_ 2 (tTk (op2 dIx (v_ 1) (c_ (.int 1)))))
  (sq_ (ifs_ (bl_ (op2 (dEq false) (op2 dIx (v_ 1) (c_ (.int 0))) (c_ (.str "put")))) (set_ 2 (tTk (op2 dIx (v_ 0) (op2 dIx (v_ 1) (c_ (.int 1)))))) nx_)
  (ret_ (op2 dAddG (op2 dAddG (op2 dAddG (op2 dAddG (op2 dIx (v_ 1) (c_ (.int 0))) (c_ (.str " "))) (v_ 2)) (c_ (.str " "))) (callD sp0 (cons_ (v_ 0) (cons_ (op2 dIx (v_ 1) (c_ (.int 2))) nil_))))))))
/- _law_ask_text(boxes, names, ask); calls: _law_term_text; slots: 0:boxes 1:names 2:ask -/
def w_L_ask_text (sp0 : SpD) : TSD :=
  (sq_ (ifs_ (bl_ (op2 (dEq false) (call_ dLen (cons_ (v_ 2) nil_)) (c_ (.int 2)))) (ret_ (op2 dAddG (op2 dAddG (op2 dIx (v_ 2) (c_ (.int 0))) (c_ (.str " "))) (op2 dIx (v_ 1) (op2 dIx (v_ 2) (c_ (.int 1)))))) nx_)
  (ret_ (op2 dAddG (op2 dAddG (op2 dAddG (op2 dAddG (callD sp0 (cons_ (v_ 0) (cons_ (op2 dIx (v_ 2) (c_ (.int 1))) nil_))) (c_ (.str " "))) (op2 dIx (v_ 2) (c_ (.int 0)))) (c_ (.str " "))) (callD sp0 (cons_ (v_ 0) (cons_ (op2 dIx (v_ 2) (c_ (.int 2))) nil_))))))
/- _law_way_text(boxes, names, way); calls: _law_ask_text, _law_deed_text; slots: 0:boxes 1:names 2:way 3:row 4:joint 5:ask 6:deed -/
def w_L_way_text (sp0 : SpD) (sp1 : SpD) : TSD :=
  (sq_ (set_ 3 (op2 dAddG (c_ (.str "on ")) (op2 dIx (v_ 2) (c_ (.int 1)))))
  (sq_ (set_ 4 (c_ (.str " if ")))
  (sq_ (for_ 5 (it_ (tTk (op2 dIx (v_ 2) (c_ (.int 2))))) (sq_ (set_ 3 (op2 dAddG (op2 dAddG (v_ 3) (v_ 4)) (callD sp0 (cons_ (v_ 0) (cons_ (v_ 1) (cons_ (v_ 5) nil_))))))
  (set_ 4 (c_ (.str " and ")))))
  (sq_ (set_ 4 (c_ (.str " do ")))
  (sq_ (for_ 6 (it_ (tTk (op2 dIx (v_ 2) (c_ (.int 3))))) (sq_ (set_ 3 (op2 dAddG (op2 dAddG (v_ 3) (v_ 4)) (callD sp1 (cons_ (v_ 0) (cons_ (v_ 6) nil_)))))
  (set_ 4 (c_ (.str " then ")))))
  (sq_ (ifs_ (bl_ (op2 (dEq false) (op2 dIx (v_ 2) (c_ (.int 4))) (un_ dNeg (c_ (.int 1))))) (retv_ 3) nx_)
  (ret_ (op2 dAddG (op2 dAddG (op2 dAddG (v_ 3) (c_ (.str " to "))) (op2 dIx (v_ 1) (op2 dIx (v_ 2) (c_ (.int 4))))) (op2 dIx (lst_ (cons_ (c_ (.str "")) (cons_ (c_ (.str " near")) (cons_ (c_ (.str " far")) nil_)))) (lidxS_ (lst_ (cons_ (c_ (.str "new")) (cons_ (c_ (.str "near")) (cons_ (c_ (.str "far")) nil_)))) (op2 dIx (v_ 2) (c_ (.int 5)))))))))))))
/- _law_rows(parts, boxes); calls: _law_chain, _law_deed_text, _law_way_text; slots: 0:parts 1:boxes 2:names 3:rows 4:box 5:mood 6:blanks 7:row 8:deed 9:way -/
def w_L_rows_2 (sp0 : SpD) (sp1 : SpD) (sp2 : SpD) : TSD :=
  (sq_ (set_ 2 (tTk (op2 dIx (v_ 0) (c_ (.int 1)))))
  (sq_ (set_ 3 (lc_ 4 (it_ (tTk (op2 dIx (v_ 0) (c_ (.int 0))))) yes_ (op2 dAddG (op2 dAddG (op2 dAddG (c_ (.str "box ")) (op2 dIx (v_ 4) (c_ (.int 0)))) (c_ (.str " "))) (call_ dStr (cons_ (op2 dIx (v_ 4) (c_ (.int 1))) nil_)))))
  (sq_ (for_ 5 (rng1_ (cons_ (call_ dLen (cons_ (op2 dIx (v_ 0) (c_ (.int 2))) nil_)) nil_)) (sq_ (set_ 6 (op2 dMulS (c_ (.str " ")) (call_ dLen (cons_ (callD sp0 (cons_ (op2 dIx (v_ 0) (c_ (.int 3))) (cons_ (v_ 5) nil_))) nil_))))
  (sq_ (set_ 7 (op2 dAddG (op2 dAddG (op2 dIx (op2 dIx (v_ 0) (c_ (.int 2))) (v_ 5)) (c_ (.str " "))) (op2 dIx (v_ 2) (v_ 5))))
  (sq_ (ifs_ (bl_ (op2 (dEq true) (op2 dIx (op2 dIx (v_ 0) (c_ (.int 4))) (v_ 5)) (un_ dNeg (c_ (.int 1))))) (set_ 7 (op2 dAddG (op2 dAddG (v_ 7) (c_ (.str " "))) (op2 dIx (v_ 2) (op2 dIx (op2 dIx (v_ 0) (c_ (.int 4))) (v_ 5))))) nx_)
  (sq_ (app_ 3 (op2 dAddG (v_ 6) (v_ 7)))
  (sq_ (for_ 8 (it_ (tTk (op2 dIx (op2 dIx (v_ 0) (c_ (.int 5))) (v_ 5)))) (app_ 3 (op2 dAddG (op2 dAddG (v_ 6) (c_ (.str " in "))) (callD sp1 (cons_ (v_ 1) (cons_ (v_ 8) nil_))))))
  (sq_ (for_ 8 (it_ (tTk (op2 dIx (op2 dIx (v_ 0) (c_ (.int 6))) (v_ 5)))) (app_ 3 (op2 dAddG (op2 dAddG (v_ 6) (c_ (.str " out "))) (callD sp1 (cons_ (v_ 1) (cons_ (v_ 8) nil_))))))
  (for_ 9 (it_ (tTk (op2 dIx (v_ 0) (c_ (.int 7))))) (ifs_ (bl_ (op2 (dEq false) (op2 dIx (v_ 9) (c_ (.int 0))) (v_ 5))) (app_ 3 (op2 dAddG (op2 dAddG (v_ 6) (c_ (.str " "))) (callD sp2 (cons_ (v_ 1) (cons_ (v_ 2) (cons_ (v_ 9) nil_)))))) nx_)))))))))
  (retv_ 3))))
/- _law_alike(found, due); calls: _law_alike; slots: 0:found 1:due 2:k -/
def w_L_alike (sp0 : SpD) : TSD :=
  (sq_ (ifs_ (or_ (bl_ (isi_ .list (v_ 1))) (bl_ (isi_ .tuple (v_ 1)))) (sq_ (ifs_ (or_ (bl_ (op2 (dEq true) (isi_ .list (v_ 0)) (isi_ .list (v_ 1)))) (bl_ (op2 (dEq true) (isi_ .tuple (v_ 0)) (isi_ .tuple (v_ 1))))) (ret_ (c_ (.bl false))) nx_)
  (sq_ (ifs_ (bl_ (op2 (dEq true) (call_ dLen (cons_ (v_ 0) nil_)) (call_ dLen (cons_ (v_ 1) nil_)))) (ret_ (c_ (.bl false))) nx_)
  (sq_ (for_ 2 (rng1_ (cons_ (call_ dLen (cons_ (v_ 1) nil_)) nil_)) (ifs_ (not_ (bl_ (callD sp0 (cons_ (op2 dIx (v_ 0) (v_ 2)) (cons_ (op2 dIx (v_ 1) (v_ 2)) nil_))))) (ret_ (c_ (.bl false))) nx_))
  (ret_ (c_ (.bl true)))))) nx_)
  (ret_ (tTk (andv_ (notv_ (isi_ .bool (v_ 0))) (op2 (dEq false) (v_ 0) (v_ 1))))))
/- _law_same(chart, parts); calls: _law_alike; slots: 0:chart 1:parts 2:tree 3:found -/
def w_L_same_4 (sp0 : SpD) : TSD :=
  (sq_ (set_ 2 (tTk (un_ (dFld "tree") (v_ 0))))
  (sq_ (set_ 3 (lst_ (cons_ (tTk (un_ (dFld "boxes") (v_ 0))) (cons_ (tTk (un_ (dFld "names") (v_ 0))) (cons_ (tTk (un_ (dFld "kinds") (v_ 2))) (cons_ (tTk (un_ (dFld "elders") (v_ 2))) (cons_ (tTk (un_ (dFld "starts") (v_ 2))) (cons_ (tTk (un_ (dFld "ins") (v_ 0))) (cons_ (tTk (un_ (dFld "outs") (v_ 0))) (cons_ (tTk (un_ (dFld "ways") (v_ 0))) nil_))))))))))
  (ret_ (callD sp0 (cons_ (v_ 3) (cons_ (v_ 1) nil_))))))
/- law(script); calls: _law_parts_by, _law_chart_by, shown, _law_rows, _law_same; slots: 0:script 1:parts 2:chart 3:found 4:due 5:box -/
def w_law_35 (sp0 : SpD) (sp1 : SpD) (sp2 : SpD) (sp3 : SpD) (sp4 : SpD) : TSD :=
  (sq_ (set_ 1 (callD sp0 (cons_ (v_ 0) nil_)))
  (sq_ (set_ 2 (callD sp1 (cons_ (v_ 1) nil_)))
  (sq_ (set_ 3 (callD sp2 (cons_ (v_ 2) nil_)))
  (sq_ (set_ 4 (sm1_ dJoin (c_ (.str "\n")) (callD sp3 (cons_ (v_ 1) (cons_ (lc_ 5 (it_ (tTk (op2 dIx (v_ 1) (c_ (.int 0))))) yes_ (tTk (op2 dIx (v_ 5) (c_ (.int 0))))) nil_)))))
  (ret_ (tTk (andv_ (isi_ .str (v_ 3)) (andv_ (op2 (dEq false) (v_ 3) (v_ 4)) (callD sp4 (cons_ (v_ 2) (cons_ (v_ 1) nil_)))))))))))
local macro_rules | `(tactic| walk_at "vx") => `(tactic| simp only [dMulS, lidxS_, rng3_, dStrA1, popv_, never_, dAddA, setM_, frzv_, ioEnd, lrv_, lidx_, lens_, lend_, sm1_, dSplit, dPart, dJoin, pins_, prem_, pm0_, setsD, enum_, unp_, aug_, lrg1_, lrg2_, dSortR, D.int.injEq, dAddG, pext_, dExt, fset_, dFs, makeD, Int.cast_ofNat_Int, Int.natCast_one, Int.reduceEq, Int.reduceNeg, papp_, pset_, pmv_, pv_, pix_, pfl_, dPx, dPf, rev_, dIs, nonD, dLtS, dLeS, dRep, ixN_0, ixN_1, ixN_2, ixN_3, id_eq, Function.comp, set_, ret_, retv_, retn_, retm_, nx_, bk_, ct_, ifs_, app_, ex_, frz_, v_, c_, op2, bl_, and_, or_, not_, andv_, orv_, notv_, if_, un_, call_, one_, two_, cons_, nil_, tTk, callD, callTD, lst_, tup_, isi_, it_, seqD, yes_, sl_, po_, no_, dInt2, dSub, dAdd, dCmp, dNeg, dIx, dSl, dLen1, dList1, dTuple1, dI2, dToInt1, dAbs1, dStr1, dEq, dIn, frz, frzL, alo, aloL, noOwn, noOwnL, noOwn_lI, aloL_lI, frzL_lI, scalD, flatD, isT_ii, isT_bi, isT_li, isT_bb, isT_ib, isT_ll, isT_tt, isT_lt, isT_tl, isT_ss, isT_il, isT_it, isT_is, isT_in, isT_ln, isT_tn, isT_id, isT_ie, isT_bs, isT_bl, isT_bt, isT_bn, isT_bd, isT_be, isT_si, isT_sb, isT_sl, isT_st, isT_sn, isT_sd, isT_se, isT_lb, isT_ls, isT_ld, isT_le, isT_ti, isT_tb, isT_ts, isT_td, isT_te, isT_di, isT_db, isT_ds, isT_dl, isT_dt, isT_dn, isT_dd, isT_de, plain_d, plain_e, plain_i, plain_b, plain_s, plain_l, plain_t, plain_n, atI_0, atI_1, atI_2, atI_3, atI_4, atI_5, size_line, Nat.reduceLeDiff, Int.reduceLT, Int.reduceLE, Int.reduceToNat, CMd, CDv, CMl, CPw, deq_int, deq_str, deq_bl, wipeD, env0, List.map_cons, List.map_nil, List.length_cons, List.length_nil, List.length_map, List.replicate, List.cons_append, List.nil_append, List.getElem?_cons_zero, List.getElem?_cons_succ, List.set_cons_zero, List.set_cons_succ, List.map_map, Option.some.injEq, D.lst.injEq, exists_eq_left', exists_eq_left, Bool.not_true, Bool.not_false, Bool.true_or, Bool.or_true, Bool.true_and, Bool.and_true, Bool.false_and, Bool.and_false, Bool.false_or, Bool.or_false, reduceCtorEq, Bool.false_eq_true, decide_eq_true_eq, decide_eq_false_iff_not, false_implies, true_implies, implies_true, forall_const, and_true, true_and, and_self, or_true, true_or, not_true_eq_false, not_false_eq_true, if_true, if_false, ite_true, ite_false, Bool.and_eq_true, Bool.or_eq_true, Bool.not_eq_true', Bool.not_eq_false', Nat.reduceAdd, Nat.reduceSub])
local macro_rules | `(tactic| walk_at "sc") => `(tactic| first | refine sT trivial ?_ | refine sT rfl ?_ | refine sF (by decide +kernel) ?_ | skip)
local macro_rules | `(tactic| walk_at "wx") => `(tactic| try walk_at "vx")
/-! ### trees of moods by their elders -/
theorem lI_snoc (m : Bool) (xs : List Int) (x : Int) : lI m (xs ++ [x]) = .lst m (xs.map .int ++ [.int x]) := by unfold lI; rw [List.map_append]; rfl
def elD (es : List Int) (k : Int) : Int := es.getD k.toNat 0
def chainF (es : List Int) : Nat → Int → List Int
  | 0, _ => []
  | f + 1, at_ => if at_ = -1 then [] else at_ :: chainF es f (elD es at_)
/-- each elder is less than the mood -/
def okE (es : List Int) : Prop := ∀ k : Nat, k < es.length → -1 ≤ elD es k ∧ elD es k < k
def upM (es : List Int) (at_ : Int) : List Int := chainF es (at_.toNat + 1) at_
def aboveM (es : List Int) (k : Int) : List Int := upM es (elD es k)
theorem okE.int {es : List Int} (h : okE es) {k : Int} (h0 : 0 ≤ k) (h1 : k < es.length) : -1 ≤ elD es k ∧ elD es k < k := by
  have := h k.toNat (by omega)
  rw [show ((k.toNat : Nat) : Int) = k by omega] at this
  exact this
theorem chainF_fuel {es : List Int} (h : okE es) : ∀ (f g : Nat) (at_ : Int), -1 ≤ at_ → at_ < es.length → at_ < f → at_ < g → chainF es f at_ = chainF es g at_
  | 0, 0, _, _, _, _, _ => rfl
  | 0, g + 1, at_, h0, _, hf, _ => by
    have : at_ = -1 := by omega
    subst this; rfl
  | f + 1, 0, at_, h0, _, _, hg => by
    have : at_ = -1 := by omega
    subst this; rfl
  | f + 1, g + 1, at_, h0, h1, hf, hg => by
    unfold chainF
    split
    · rfl
    · have := h.int (k := at_) (by omega) h1
      rw [chainF_fuel h f g (elD es at_) this.1 (by omega) (by omega) (by omega)]
theorem upM_neg (es : List Int) : upM es (-1) = [] := rfl
theorem upM_step {es : List Int} (h : okE es) {at_ : Int} (h0 : 0 ≤ at_) (h1 : at_ < es.length) : upM es at_ = at_ :: aboveM es at_ := by
  have he := h.int h0 h1
  show chainF es (at_.toNat + 1) at_ = _
  unfold chainF
  rw [if_neg (by omega)]
  show _ = at_ :: chainF es ((elD es at_).toNat + 1) (elD es at_)
  rw [chainF_fuel h at_.toNat ((elD es at_).toNat + 1) (elD es at_) he.1 (by omega) (by omega) (by omega)]
/-- a longer list of elders tells the same of the moods that were -/
theorem elD_app {es : List Int} {x : Int} {k : Int} (h0 : 0 ≤ k) (h1 : k < es.length) : elD (es ++ [x]) k = elD es k := by
  unfold elD
  rw [List.getD_eq_getElem?_getD, List.getD_eq_getElem?_getD, List.getElem?_append_left (by omega)]
theorem chainF_app {es : List Int} (h : okE es) (x : Int) : ∀ (f : Nat) (at_ : Int), -1 ≤ at_ → at_ < es.length → chainF (es ++ [x]) f at_ = chainF es f at_
  | 0, _, _, _ => rfl
  | f + 1, at_, h0, h1 => by
    unfold chainF
    split
    · rfl
    · have := h.int (k := at_) (by omega) h1
      rw [elD_app (by omega) h1, chainF_app h x f _ this.1 (by omega)]
theorem upM_app {es : List Int} (h : okE es) (x : Int) {at_ : Int} (h0 : -1 ≤ at_) (h1 : at_ < es.length) : upM (es ++ [x]) at_ = upM es at_ := chainF_app h x _ _ h0 h1
theorem aboveM_app {es : List Int} (h : okE es) (x : Int) {k : Int} (h0 : 0 ≤ k) (h1 : k < es.length) : aboveM (es ++ [x]) k = aboveM es k := by
  have := h.int h0 h1
  unfold aboveM
  rw [elD_app h0 h1, upM_app h x this.1 (by omega)]
/-- the elders of all moods by the law's own drawing -/
structure okTree (es : List Int) : Prop where
  one : 1 ≤ es.length
  most : es.length ≤ 150
  root : elD es 0 = -1
  lt : ∀ k : Nat, 0 < k → k < es.length → 0 ≤ elD es k ∧ elD es k < k
  pre : ∀ k : Nat, k + 1 < es.length → elD es (k + 1 : Nat) ∈ (k : Int) :: aboveM es k
  deep : ∀ k : Nat, k < es.length → (aboveM es k).length ≤ 12
theorem okTree.ok {es : List Int} (h : okTree es) : okE es := fun k hk => by
  by_cases h0 : k = 0
  · subst h0
    have := h.root
    rw [show ((0 : Nat) : Int) = 0 from rfl, this]; omega
  · have := h.lt k (by omega) hk
    omega
theorem upM_mem {es : List Int} (h : okE es) : ∀ (n : Nat) (at_ : Int), at_ < n → -1 ≤ at_ → at_ < es.length → ∀ x ∈ upM es at_, 0 ≤ x ∧ x ≤ at_
  | 0, at_, hn, h0, _, x, m => by
    have : at_ = -1 := by omega
    subst this; cases m
  | n + 1, at_, hn, h0, h1, x, m => by
    by_cases e : at_ = -1
    · subst e; cases m
    · have he := h.int (k := at_) (by omega) h1
      rw [upM_step h (by omega) h1] at m
      rcases List.mem_cons.mp m with rfl | m
      · omega
      · have := upM_mem h n (elD es at_) (by omega) he.1 (by omega) x m
        omega
theorem aboveM_mem {es : List Int} (h : okE es) {k : Int} (h0 : 0 ≤ k) (h1 : k < es.length) {x : Int} (m : x ∈ aboveM es k) : 0 ≤ x ∧ x < k := by
  have he := h.int h0 h1
  have := upM_mem h es.length (elD es k) (by omega) he.1 (by omega) x m
  omega
theorem upM_len {es : List Int} (h : okE es) : ∀ (n : Nat) (at_ : Int), at_ < n → -1 ≤ at_ → at_ < es.length → ((upM es at_).length : Int) ≤ at_ + 1
  | 0, at_, hn, h0, _ => by
    have : at_ = -1 := by omega
    subst this; rw [upM_neg]; simp
  | n + 1, at_, hn, h0, h1 => by
    by_cases e : at_ = -1
    · subst e; rw [upM_neg]; simp
    · have he := h.int (k := at_) (by omega) h1
      rw [upM_step h (by omega) h1, List.length_cons]
      have := upM_len h n (elD es at_) (by omega) he.1 (by omega)
      show (((upM es (elD es at_)).length + 1 : Nat) : Int) ≤ _
      omega
theorem aboveM_len {es : List Int} (h : okE es) {k : Int} (h0 : 0 ≤ k) (h1 : k < es.length) : ((aboveM es k).length : Int) ≤ k := by
  have he := h.int h0 h1
  have := upM_len h es.length (elD es k) (by omega) he.1 (by omega)
  show ((upM es (elD es k)).length : Int) ≤ k
  omega
theorem upM_mem_len {es : List Int} (h : okE es) : ∀ (n : Nat) (at_ : Int), at_ < n → -1 ≤ at_ → at_ < es.length → ∀ x ∈ upM es at_, (upM es x).length ≤ (upM es at_).length
  | 0, at_, hn, h0, _, x, m => by
    have : at_ = -1 := by omega
    subst this; cases m
  | n + 1, at_, hn, h0, h1, x, m => by
    by_cases e : at_ = -1
    · subst e; cases m
    · have he := h.int (k := at_) (by omega) h1
      have us := upM_step h (by omega) h1
      rw [us] at m
      rcases List.mem_cons.mp m with rfl | m
      · exact Nat.le_refl _
      · have := upM_mem_len h n (elD es at_) (by omega) he.1 (by omega) x m
        rw [us, List.length_cons]
        exact Nat.le_trans this (Nat.le_succ _)
/-- a tree grows -/
theorem okTree.grow {es : List Int} (h : okTree es) (hm : es.length < 150) {x : Int} (hx : x ∈ ((es.length : Int) - 1) :: aboveM es ((es.length : Int) - 1)) (hd : (upM es x).length ≤ 12) : okTree (es ++ [x]) := by
  have ho := h.ok
  have h1 := h.one
  have hb : 0 ≤ x ∧ x < es.length := by
    rcases List.mem_cons.mp hx with rfl | m
    · omega
    · have := aboveM_mem ho (by omega) (by omega) m
      omega
  have new : elD (es ++ [x]) es.length = x := by
    unfold elD
    rw [List.getD_eq_getElem?_getD, show ((es.length : Nat) : Int).toNat = es.length by omega]
    simp
  refine ⟨by simp, by simp; omega, ?_, fun k h0 hk => ?_, fun k hk => ?_, fun k hk => ?_⟩
  · rw [elD_app (by omega) (by omega)]; exact h.root
  · by_cases hk2 : k < es.length
    · rw [elD_app (by omega) (by omega)]; exact h.lt k h0 hk2
    · have : k = es.length := by simp at hk; omega
      subst this
      rw [new]; exact hb
  · by_cases hk2 : k + 1 < es.length
    · rw [elD_app (by omega) (by omega), aboveM_app ho x (by omega) (by omega)]; exact h.pre k hk2
    · have e : k + 1 = es.length := by simp at hk; omega
      rw [e, new, aboveM_app ho x (by omega) (by omega)]
      rw [show (k : Int) = (es.length : Int) - 1 by omega]; exact hx
  · by_cases hk2 : k < es.length
    · rw [aboveM_app ho x (by omega) (by omega)]; exact h.deep k hk2
    · have e : k = es.length := by simp at hk; omega
      subst e
      show (upM (es ++ [x]) (elD (es ++ [x]) es.length)).length ≤ 12
      rw [new, upM_app ho x (by omega) (by omega)]; exact hd
theorem okTree_start : okTree [-1] := by
  refine ⟨by decide, by decide, rfl, fun k h0 h1 => ?_, fun k h => ?_, fun k h => ?_⟩
  · simp at h1; omega
  · simp at h
  · have : k = 0 := by simp at h; omega
    subst this; decide
/-- inner moods -/
def innerM (es : List Int) (k : Int) : List Int := ((List.range es.length).filter fun j => decide (elD es (j : Nat) = k)).map Int.ofNat
/-- kinds and starts -/
def okKind (es : List Int) (ks : List Str) (ss : List Int) (k : Nat) : Prop :=
  (innerM es k = [] ∧ ks[k]? = some ("leaf" : Str) ∧ ss[k]? = some (-1)) ∨ (innerM es k ≠ [] ∧ ks[k]? = some ("all" : Str) ∧ ss[k]? = some (-1)) ∨ (innerM es k ≠ [] ∧ ks[k]? = some ("one" : Str) ∧ ∃ s, ss[k]? = some s ∧ s ∈ innerM es k)
structure okLists (ks : List Str) (es ss : List Int) : Prop where
  tree : okTree es
  lk : ks.length = es.length
  ls : ss.length = es.length
  kind : ∀ k < es.length, okKind es ks ss k
def treeD (m : Bool) (ks : List Str) (es ss : List Int) : D := .obj m "Tree" ["kinds", "elders", "starts"] [.lst m (ks.map .str), lI m es, lI m ss]
theorem frzL_str (ks : List Str) : frzL (ks.map .str) = ks.map .str := frzL_map_id D.str (fun _ => rfl) ks
theorem noOwnL_str (ks : List Str) : noOwnL (ks.map .str) = true := noOwnL_map D.str (fun _ => rfl) ks
theorem aloL_str (ks : List Str) : aloL (ks.map .str) = true := aloL_map D.str (fun _ => rfl) ks
theorem frz_tree (m : Bool) (ks : List Str) (es ss : List Int) : frz (treeD m ks es ss) = treeD false ks es ss := by
  unfold treeD
  simp only [frz, frzL, frzL_str, frzL_lI]
theorem alo_tree (ks : List Str) (es ss : List Int) : alo (treeD true ks es ss) = true := by
  unfold treeD
  simp only [alo, aloL, aloL_str, aloL_lI, Bool.and_true]
theorem noOwn_tree (ks : List Str) (es ss : List Int) : noOwn (treeD false ks es ss) = true := by
  unfold treeD
  simp only [noOwn, noOwnL, noOwnL_str, noOwn_lI, Bool.not_false, Bool.and_true]
theorem b_ek : (("elders" : Str) == "kinds") = false := by decide +kernel
theorem b_sk : (("starts" : Str) == "kinds") = false := by decide +kernel
theorem b_se : (("starts" : Str) == "elders") = false := by decide +kernel
theorem fld_kinds (m : Bool) (ks : List Str) (es ss : List Int) (Q : D → Prop) : dFld "kinds" (treeD m ks es ss) Q = Q (.lst m (ks.map .str)) := by
  unfold treeD dFld
  simp only [List.zip_cons_cons, List.lookup_cons, beq_self_eq_true, Option.some.injEq, exists_eq_left']
theorem fld_elders (m : Bool) (ks : List Str) (es ss : List Int) (Q : D → Prop) : dFld "elders" (treeD m ks es ss) Q = Q (lI m es) := by
  unfold treeD dFld
  simp only [List.zip_cons_cons, List.lookup_cons, b_ek, beq_self_eq_true, Option.some.injEq, exists_eq_left']
theorem fld_starts (m : Bool) (ks : List Str) (es ss : List Int) (Q : D → Prop) : dFld "starts" (treeD m ks es ss) Q = Q (lI m ss) := by
  unfold treeD dFld
  simp only [List.zip_cons_cons, List.lookup_cons, b_sk, b_se, beq_self_eq_true, Option.some.injEq, exists_eq_left']
local macro_rules | `(tactic| walk_at "vt") => `(tactic| repeat (first | simp only [fld_kinds, fld_elders, fld_starts, frz_tree, alo_tree, noOwn_tree] | walk_at "vx"))
theorem any_ints (xs : List Int) (o : Int) : ((xs.map D.int).any fun d => deq d (.int o)) = decide (o ∈ xs) := by
  induction xs with
  | nil => rfl
  | cons x xs ih =>
    rw [List.map_cons, List.any_cons, ih, deq_int]
    by_cases h : x = o
    · subst h; simp
    · rw [decide_eq_false h, Bool.false_or]
      simp only [List.mem_cons, show ¬ o = x from fun e => h e.symm, false_or]
theorem flat_ints (xs : List Int) : (xs.map D.int).all flatD = true := by
  rw [List.all_map, List.all_eq_true]
  exact fun _ _ => rfl
def withinM (es : List Int) (k o : Int) : Bool := decide (o = -1) || decide (o ∈ aboveM es k)
-- needs: m_tree
def sp_L_chain : SpD := fun ds Q => ∃ m es k, ds = [lI m es, .int k] ∧ okE es ∧ es.length ≤ 150 ∧ 0 ≤ k ∧ k < es.length ∧ Q (lI true (aboveM es k))
theorem len_L_chain : ∀ ds Q, sp_L_chain ds Q → ds.length = 2 := by rintro _ _ ⟨_, _, _, rfl, _⟩; rfl
theorem d_L_chain : ∀ ds Q, sp_L_chain ds Q → w_L_chain { nx := fun _ => Q .non, rt := fun d _ => Q d } (env0 4 ds) := by
  rintro _ Q ⟨m, es, k, rfl, ok, hl, h0, h1, q⟩
  unfold w_L_chain
  refine sq_i ?_
  walk_at "vx"
  refine sq_i ?_
  walk_at "vx"
  refine ix_lI h0 h1 ⟨rfl, ?_⟩
  refine sq_i ?_
  have he := ok.int h0 h1
  refine ⟨fun env => ∃ (pre : List Int) (at_ : Int), env = [some (lI m es), some (.int k), some (lI true pre), some (.int at_)] ∧ -1 ≤ at_ ∧ at_ < es.length ∧ pre ++ upM es at_ = aboveM es k ∧ (pre.length : Int) + at_ < 150,
    fun env => match env with | [_, _, _, some (.int a)] => (a + 1).toNat | _ => 0, ⟨[], _, rfl, he.1, (show elD es k < es.length by omega), rfl, (show (0 : Int) + elD es k < 150 by omega)⟩, ?_⟩
  rintro _ ⟨pre, at_, rfl, a0, a1, e, hp⟩
  walk_at "vx"
  refine ⟨fun hne => ?_, fun heq => ?_⟩
  · have h0' : 0 ≤ at_ := by omega
    have he := ok.int h0' a1
    refine sq_i ?_
    walk_at "vx"
    refine ⟨by omega, ?_⟩
    refine ix_lI h0' a1 ⟨rfl, ?_⟩
    refine ⟨⟨pre ++ [at_], elD es at_, by rw [lI_snoc]; rfl, he.1, by omega, ?_, by simp; omega⟩, ?_⟩
    · rw [← e, upM_step ok h0' a1, List.append_assoc]; rfl
    · show (elD es at_ + 1).toNat < (at_ + 1).toNat
      omega
  · subst heq
    rw [upM_neg, List.append_nil] at e
    subst e
    exact q
/-! ### names by a cell -/
def lettersM : Str := "abcdefghijklmnopqrstuvwxyz0123456789"
def letM (k : Int) : Str := ⟨#[lettersM.cps.toList.getD k.toNat 0]⟩
def nmM (c : Int) : Nat → Int × Str
  | 0 => (c / 12 % 10 ^ 9, letM (c / 12 % 10 ^ 9 % 26))
  | k + 1 => (((nmM c k).1 * 48271 + 11) % 2147483647, (nmM c k).2 ++ letM (((nmM c k).1 * 48271 + 11) % 2147483647 % 36))
def wordsA : List Str := ["all", "and", "box", "call", "do", "far", "if", "in", "leaf", "near", "on", "one", "open"]
def wordsB : List Str := ["out", "put", "say", "shut", "then", "to"]
def inW (ws : List Str) (x : Str) : Bool := (ws.map D.str).any fun d => deq d (.str x)
def nameM (c : Int) : Str :=
  let x := (nmM c (c % 12).toNat).2
  if inW wordsA x then x ++ "0" else if inW wordsB x then x ++ "0" else x
theorem len_app (a b : Str) : (a ++ b).length = a.length + b.length := by
  show (a.cps ++ b.cps).size = _
  rw [Array.size_append]; rfl
theorem nmM_len (c : Int) : ∀ k, (nmM c k).2.length = k + 1
  | 0 => rfl
  | k + 1 => by
    show ((nmM c k).2 ++ letM _).length = _
    rw [len_app, nmM_len c k]; rfl
theorem strOk_app {a b : Str} (h1 : PyData.strOk a = true) (h2 : PyData.strOk b = true) : PyData.strOk (a ++ b) = true := by
  show (a.cps ++ b.cps).all _ = true
  rw [Array.all_append]
  exact Bool.and_eq_true_iff.mpr ⟨h1, h2⟩
theorem all_lettersM : lettersM.cps.toList.all (fun c => decide (c < 0x110000)) = true := by decide +kernel
theorem strOk_letM (k : Int) : PyData.strOk (letM k) = true := by
  have h := List.all_eq_true.mp all_lettersM
  have : lettersM.cps.toList.getD k.toNat 0 < 0x110000 := by
    rw [List.getD_eq_getElem?_getD]
    cases e : lettersM.cps.toList[k.toNat]? with
    | none => decide
    | some x => exact of_decide_eq_true (h x (List.mem_of_getElem? e))
  show (#[lettersM.cps.toList.getD k.toNat 0] : Array Nat).all _ = true
  simpa using this
theorem nmM_ok (c : Int) : ∀ k, PyData.strOk (nmM c k).2 = true
  | 0 => strOk_letM _
  | k + 1 => strOk_app (nmM_ok c k) (strOk_letM _)
theorem nameM_ok (c : Int) : PyData.strOk (nameM c) = true := by
  unfold nameM
  dsimp only
  have h0 : PyData.strOk "0" = true := by decide +kernel
  split
  · exact strOk_app (nmM_ok c _) h0
  · split
    · exact strOk_app (nmM_ok c _) h0
    · exact nmM_ok c _
theorem nameM_len (c : Int) : (nameM c).length ≤ 13 := by
  have h := nmM_len c (c % 12).toNat
  have h0 : ("0" : Str).length = 1 := by decide +kernel
  have : (c % 12).toNat ≤ 11 := by omega
  unfold nameM
  dsimp only
  split
  · rw [len_app, h0]; omega
  · split
    · rw [len_app, h0]; omega
    · omega
/-! ### numbers by a cell -/
def numM (c : Int) : Int := if c % 2 = 0 then c / 2 % 9 - 4 else if c % 4 = 1 then c / 4 * 48271 % 10 ^ 60 else -(c / 4 * 48271 % 10 ^ 60)
/-! ### marks, terms, asks of numbers -/
inductive Mrk where | lt | le | eq | ne
def mS : Mrk → Str
  | .lt => "<"
  | .le => "<="
  | .eq => "="
  | .ne => "!="
def dueM : Mrk → Int → Int → Bool
  | .lt, x, y => decide (x < y)
  | .le, x, y => decide (x ≤ y)
  | .eq, x, y => decide (x = y)
  | .ne, x, y => !decide (x = y)
def valM (bx : List Int) (b more : Int) : Int := if b = -1 then more else bx.getD b.toNat 0 + more
def tD (b more : Int) : D := .tup [.int b, .int more]
def okT (b : Int) (bx : List Int) : Prop := b = -1 ∨ 0 ≤ b ∧ b < bx.length
def askD (m : Mrk) (b1 n1 b2 n2 : Int) : D := .tup [.str (mS m), tD b1 n1, tD b2 n2]
-- needs: m_name m_num m_marks
/-! ### boxes, terms, deeds by a cell -/
def manyM (ns : List Int) : Int := if ns.getD 0 0 / 13 % 8 = 1 then ns.length else ns.getD 0 0 % 13
def boxesM (ns : List Int) : List Int := (List.range (manyM ns).toNat).map fun k : Nat => numM (ns.getD (k + 1) 0 + 5 * (k : Int))
theorem manyM_le {ns : List Int} (h : ns.length ≤ 63) : 0 ≤ manyM ns ∧ manyM ns ≤ 63 := by
  unfold manyM
  split <;> omega
theorem boxesM_len (ns : List Int) : (boxesM ns).length = (manyM ns).toNat := by
  unfold boxesM
  rw [List.length_map, List.length_range]
inductive Deed where
  | put (b : Int) (t : Int × Int)
  | call (n : Str)
  | say (n : Str) (t : Int × Int)
def termM (c many : Int) : Int × Int := (c % (many + 1) - 1, numM (c / (many + 1)))
def deedM (c many : Int) : Deed :=
  if c % 5 = 1 then .call (nameM (c / 5)) else if c % 5 = 2 ∨ many = 0 then .say (nameM (c / 5)) (termM (c / 5 / 7) many) else .put (c / 5 % many) (termM (c / 5 / many) many)
def dD : Deed → D
  | .put b t => .tup [.str "put", .int b, tD t.1 t.2]
  | .call n => .tup [.str "call", .str n]
  | .say n t => .tup [.str "say", .str n, tD t.1 t.2]
/-- a deed of boxes -/
def okDe (many : Int) : Deed → Prop
  | .put b t => 0 ≤ b ∧ b < many ∧ (t.1 = -1 ∨ 0 ≤ t.1 ∧ t.1 < many)
  | .call n => PyData.strOk n = true
  | .say n t => PyData.strOk n = true ∧ (t.1 = -1 ∨ 0 ≤ t.1 ∧ t.1 < many)
theorem okDe_M {c many : Int} (h : 0 ≤ many) : okDe many (deedM c many) := by
  have ht : ∀ x, (termM x many).1 = -1 ∨ 0 ≤ (termM x many).1 ∧ (termM x many).1 < many := fun x => by
    have h1 := Int.emod_nonneg x (show many + 1 ≠ 0 by omega)
    have h2 := Int.emod_lt_of_pos x (show (0 : Int) < many + 1 by omega)
    show x % (many + 1) - 1 = -1 ∨ 0 ≤ x % (many + 1) - 1 ∧ x % (many + 1) - 1 < many
    omega
  unfold deedM
  split
  · exact nameM_ok _
  · split
    · exact ⟨nameM_ok _, ht _⟩
    · rename_i h1 h2
      have hm : 0 < many := by omega
      exact ⟨Int.emod_nonneg _ (by omega), Int.emod_lt_of_pos _ hm, ht _⟩
/-- what a deed does: the boxes behind, and its row -/
def behM (bx : List Int) : Deed → List Int
  | .put b t => bx.set b.toNat (valM bx t.1 t.2)
  | _ => bx
def rowL (bx : List Int) : Deed → List D
  | .put b t => [.str "put", .int b, .int (bx.getD b.toNat 0), .int (valM bx t.1 t.2)]
  | .call n => [.str "call", .str n]
  | .say n t => [.str "say", .str n, .int (valM bx t.1 t.2)]
theorem behM_len (bx : List Int) (d : Deed) : (behM bx d).length = bx.length := by cases d <;> simp [behM]
theorem noOwn_dD (d : Deed) : noOwn (dD d) = true := by cases d <;> rfl
theorem frz_dD (d : Deed) : frz (dD d) = dD d := frz_id _ (noOwn_dD d)
def scD : D → Prop
  | .str s => PyData.strOk s = true
  | .int _ => True
  | _ => False
theorem rowL_sc {bx : List Int} {d : Deed} {m : Int} (h : okDe m d) : ∀ r ∈ rowL bx d, scD r := by
  have h1 : PyData.strOk "put" = true := by decide +kernel
  have h2 : PyData.strOk "call" = true := by decide +kernel
  have h3 : PyData.strOk "say" = true := by decide +kernel
  cases d with
  | put b t => intro r m; simp only [rowL, List.mem_cons, List.not_mem_nil, or_false] at m; rcases m with rfl | rfl | rfl | rfl <;> first | exact h1 | trivial
  | call n => intro r m; simp only [rowL, List.mem_cons, List.not_mem_nil, or_false] at m; rcases m with rfl | rfl <;> first | exact h2 | exact h
  | say n t => intro r m; simp only [rowL, List.mem_cons, List.not_mem_nil, or_false] at m; rcases m with rfl | rfl | rfl <;> first | exact h3 | exact h.1 | trivial
theorem rowL_len (bx : List Int) (d : Deed) : (rowL bx d).length ≤ 4 := by cases d <;> simp [rowL]
theorem sc_noOwn : ∀ {rs : List D}, (∀ r ∈ rs, scD r) → noOwnL rs = true
  | [], _ => rfl
  | r :: rs, h => by
    rw [noOwnL, sc_noOwn fun x m => h x (List.mem_cons_of_mem _ m), Bool.and_true]
    have := h r List.mem_cons_self
    cases r <;> first | rfl | exact False.elim this
theorem sc_alo : ∀ {rs : List D}, (∀ r ∈ rs, scD r) → aloL rs = true
  | [], _ => rfl
  | r :: rs, h => by
    rw [aloL, sc_alo fun x m => h x (List.mem_cons_of_mem _ m), Bool.and_true]
    have := h r List.mem_cons_self
    cases r <;> first | rfl | exact False.elim this
theorem sc_frz {rs : List D} (h : ∀ r ∈ rs, scD r) : frzL rs = rs := frzL_id _ (sc_noOwn h)
theorem sc_eqOk {n : Nat} : ∀ {rs : List D}, (∀ r ∈ rs, scD r) → eqOkL rs n = true
  | [], _ => rfl
  | r :: rs, h => by
    rw [eqOkL, sc_eqOk fun x m => h x (List.mem_cons_of_mem _ m), Bool.and_true]
    have := h r List.mem_cons_self
    cases r <;> first | rfl | exact False.elim this | exact this
theorem set_ints (bx : List Int) (j : Nat) (x : Int) : (bx.map D.int).set j (.int x) = (bx.set j x).map D.int := by rw [List.map_set]
def midM (bx : List Int) : Deed → D
  | .put b t => .tup (rowL bx (.put b t))
  | d => dD d
-- needs: m_deeds
/-! ### journal rows -/
def putD (b x y : Int) : D := .tup [.str "put", .int b, .int x, .int y]
def rowJ (many : Int) (r : D) : Prop := (∃ b x y, r = putD b x y ∧ 0 ≤ b ∧ b < many) ∨ ∃ (w : Str) (rest : List D), r = .tup (.str w :: rest) ∧ w ≠ "put" ∧ ∀ x ∈ D.str w :: rest, scD x
theorem rowJ_noOwn {many : Int} {r : D} (h : rowJ many r) : noOwn r = true := by
  rcases h with ⟨b, x, y, rfl, _⟩ | ⟨w, rest, rfl, _, h⟩
  · rfl
  · exact sc_noOwn h
theorem rowJ_frz {many : Int} {r : D} (h : rowJ many r) : frz r = r := frz_id _ (rowJ_noOwn h)
def words8 : List Str := ["sign", "call", "out", "keep", "way", "in", "say", "rest"]
theorem words8_all : words8.all (fun w => decide (w ≠ "put") && PyData.strOk w) = true := by decide +kernel
theorem words8_ok : ∀ w ∈ words8, w ≠ "put" ∧ PyData.strOk w = true := fun w m => by
  have := List.all_eq_true.mp words8_all w m
  rw [Bool.and_eq_true, decide_eq_true_eq] at this
  exact this
-- needs: m_rows
/-! ### rows of deeds -/
def afterM (bx : List Int) (ds : List Deed) : List Int := ds.foldl behM bx
def rowsM : List Int → List Deed → List (List D)
  | _, [] => []
  | bx, d :: ds => rowL bx d :: rowsM (behM bx d) ds
def calledM (ds : List Deed) : List Str := ds.filterMap fun d => match d with | .call n => some n | _ => none
theorem afterM_app (bx : List Int) (a b : List Deed) : afterM bx (a ++ b) = afterM (afterM bx a) b := by unfold afterM; rw [List.foldl_append]
theorem afterM_len : ∀ (bx : List Int) (ds : List Deed), (afterM bx ds).length = bx.length
  | _, [] => rfl
  | bx, d :: ds => by
    show (afterM (behM bx d) ds).length = _
    rw [afterM_len, behM_len]
theorem rowsM_app : ∀ (bx : List Int) (a b : List Deed), rowsM bx (a ++ b) = rowsM bx a ++ rowsM (afterM bx a) b
  | _, [], _ => rfl
  | bx, d :: a, b => by
    show rowL bx d :: rowsM (behM bx d) (a ++ b) = _
    rw [rowsM_app]; rfl
theorem rowsM_len : ∀ (bx : List Int) (ds : List Deed), (rowsM bx ds).length = ds.length
  | _, [] => rfl
  | bx, d :: ds => by
    show (rowsM (behM bx d) ds).length + 1 = _
    rw [rowsM_len]; rfl
theorem rowsM_sc {bx : List Int} : ∀ {ds : List Deed} {bx : List Int} {m : Int}, (∀ d ∈ ds, okDe m d) → ∀ rs ∈ rowsM bx ds, ∀ r ∈ rs, scD r
  | [], _, _, _, rs, h => by cases h
  | d :: ds, bx, m, h, rs, hm => by
    rcases List.mem_cons.mp hm with rfl | hm
    · exact rowL_sc (h d List.mem_cons_self)
    · exact rowsM_sc (bx := bx) (fun x q => h x (List.mem_cons_of_mem _ q)) rs hm
theorem noOwn_rows {rss : List (List D)} (h : ∀ rs ∈ rss, ∀ r ∈ rs, scD r) : noOwnL (rss.map .tup) = true := by
  rw [noOwnL_all, List.all_map]
  exact List.all_eq_true.mpr fun a m => sc_noOwn (h a m)
theorem alo_rows {rss : List (List D)} (h : ∀ rs ∈ rss, ∀ r ∈ rs, scD r) : aloL (rss.map .tup) = true := by
  rw [aloL_all, List.all_map]
  exact List.all_eq_true.mpr fun a m => sc_alo (h a m)
theorem frz_rows {rss : List (List D)} (h : ∀ rs ∈ rss, ∀ r ∈ rs, scD r) : frzL (rss.map .tup) = rss.map .tup := frzL_id _ (noOwn_rows h)
theorem calledM_app (a b : List Deed) : calledM (a ++ b) = calledM a ++ calledM b := by unfold calledM; rw [List.filterMap_append]
theorem dD_inj : ∀ a b : Deed, dD a = dD b → a = b := by
  intro a b h
  cases a <;> cases b <;> simp only [dD, tD, D.tup.injEq, List.cons.injEq, D.int.injEq, D.str.injEq, reduceCtorEq, and_false, false_and, and_true, true_and] at h
  · obtain ⟨rfl, h1, h2⟩ := h
    rw [Prod.ext h1 h2]
  · rw [h]
  · obtain ⟨rfl, h1, h2⟩ := h
    rw [Prod.ext h1 h2]
theorem dD_put (b : Int) (t : Int × Int) : dD (.put b t) = .tup [.str "put", .int b, tD t.1 t.2] := rfl
theorem dD_call (n : Str) : dD (.call n) = .tup [.str "call", .str n] := rfl
theorem dD_say (n : Str) (t : Int × Int) : dD (.say n t) = .tup [.str "say", .str n, tD t.1 t.2] := rfl
theorem rowL_put (bx : List Int) (b : Int) (t : Int × Int) : rowL bx (.put b t) = [.str "put", .int b, .int (bx.getD b.toNat 0), .int (valM bx t.1 t.2)] := rfl
theorem rowsM_get {bx : List Int} {des : List Deed} {k : Nat} (hk : k < des.length) : (rowsM bx des)[k]? = some (rowL (afterM bx (des.take k)) des[k]) := by
  have e : des = des.take k ++ des[k] :: des.drop (k + 1) := by rw [List.getElem_cons_drop, List.take_append_drop]
  have hl : (rowsM bx (des.take k)).length = k := by rw [rowsM_len, List.length_take]; omega
  have : rowsM bx des = rowsM bx (des.take k) ++ rowL (afterM bx (des.take k)) des[k] :: rowsM (behM (afterM bx (des.take k)) des[k]) (des.drop (k + 1)) := by
    have := rowsM_app bx (des.take k) (des[k] :: des.drop (k + 1))
    rw [← e] at this
    exact this
  rw [this, List.getElem?_append_right (by omega), hl, Nat.sub_self]
  rfl
/-! ### the same data, whatever the marks are -/
mutual
theorem frz_frz : ∀ d : D, frz (frz d) = frz d
  | .non => rfl
  | .bl _ => rfl
  | .int _ => rfl
  | .str _ => rfl
  | .tup xs => by rw [frz, frz, frzL_frzL xs]
  | .lst _ xs => by rw [frz, frz, frzL_frzL xs]
  | .dic _ _ xs => by rw [frz, frz, frzL_frzL xs]
  | .dit _ _ xs => by rw [frz, frz, frzL_frzL xs]
  | .obj _ _ _ xs => by rw [frz, frz, frzL_frzL xs]
  | .opq => rfl
theorem frzL_frzL : ∀ ds : List D, frzL (frzL ds) = frzL ds
  | [] => rfl
  | d :: ds => by rw [frzL, frzL, frz_frz d, frzL_frzL ds]
end
/-- numbers, texts, lists and tuples alone, less deep than this -/
def okS : Nat → D → Bool
  | 0, _ => false
  | _ + 1, .int _ => true
  | _ + 1, .str s => PyData.strOk s
  | n + 1, .lst _ xs => decide (xs.length < 2 ^ 62) && xs.all (okS n)
  | n + 1, .tup xs => decide (xs.length < 2 ^ 62) && xs.all (okS n)
  | _ + 1, _ => false
theorem okS_frz : ∀ (n : Nat) (d : D), okS n (frz d) = okS n d
  | 0, _ => rfl
  | _ + 1, .int _ => rfl
  | _ + 1, .str _ => rfl
  | n + 1, .lst _ xs => by rw [frz, okS, okS, frzL_map, List.length_map, List.all_map]; congr 2; funext x; exact okS_frz n x
  | n + 1, .tup xs => by rw [frz, okS, okS, frzL_map, List.length_map, List.all_map]; congr 2; funext x; exact okS_frz n x
  | _ + 1, .non => rfl
  | _ + 1, .bl _ => rfl
  | _ + 1, .dic _ _ _ => rfl
  | _ + 1, .dit _ _ _ => rfl
  | _ + 1, .obj _ _ _ _ => rfl
  | _ + 1, .opq => rfl
theorem okS_up : ∀ (n : Nat) (d : D), okS n d = true → okS (n + 1) d = true
  | 0, _, h => by cases h
  | n + 1, .int _, _ => rfl
  | n + 1, .str _, h => h
  | n + 1, .lst _ xs, h => by
    rw [okS, Bool.and_eq_true, List.all_eq_true] at h ⊢
    exact ⟨h.1, fun x hx => okS_up n x (h.2 x hx)⟩
  | n + 1, .tup xs, h => by
    rw [okS, Bool.and_eq_true, List.all_eq_true] at h ⊢
    exact ⟨h.1, fun x hx => okS_up n x (h.2 x hx)⟩
  | n + 1, .non, h => by cases h
  | n + 1, .bl _, h => by cases h
  | n + 1, .dic _ _ _, h => by cases h
  | n + 1, .dit _ _ _, h => by cases h
  | n + 1, .obj _ _ _ _, h => by cases h
  | n + 1, .opq, h => by cases h
theorem okS_mono {n m : Nat} {d : D} (h : n ≤ m) (k : okS n d = true) : okS m d = true := by
  obtain ⟨j, rfl⟩ := Nat.exists_eq_add_of_le h
  induction j with
  | zero => exact k
  | succ j ih => exact okS_up _ _ (ih (by omega))
theorem okS_tup {n : Nat} {xs : List D} (h : xs.length < 2 ^ 62) (h2 : ∀ x ∈ xs, okS n x = true) : okS (n + 1) (.tup xs) = true := by
  rw [okS, decide_eq_true h, Bool.true_and, List.all_eq_true]; exact h2
theorem okS_lst {n : Nat} {m : Bool} {xs : List D} (h : xs.length < 2 ^ 62) (h2 : ∀ x ∈ xs, okS n x = true) : okS (n + 1) (.lst m xs) = true := by
  rw [okS, decide_eq_true h, Bool.true_and, List.all_eq_true]; exact h2
theorem okS_lI {n : Nat} {m : Bool} {xs : List Int} (h : xs.length < 2 ^ 62) : okS (n + 2) (lI m xs) = true :=
  okS_lst (by rw [List.length_map]; exact h) fun x hx => by obtain ⟨i, _, rfl⟩ := List.mem_map.mp hx; rfl
theorem atI_in {xs : List D} {k : Nat} {P : D → Prop} (h : k < xs.length) (p : P xs[k]) : ∃ d, atI xs (k : Int) = some d ∧ P d := by
  refine ⟨xs[k], ?_, p⟩
  unfold atI
  rw [ixN_nat h]
  simp [h]
theorem strOk_ofString (s : String) : PyData.strOk (Str.ofString s) = true := by
  unfold PyData.strOk
  rw [← Array.all_toList, PyProof.Rows.signs_ofString, List.all_map]
  exact List.all_eq_true.mpr fun c _ => decide_eq_true (by
    have h := c.valid
    unfold UInt32.isValidChar Nat.isValidChar at h
    show c.val.toNat < 1114112
    omega)
-- needs: m_tree
/-! ### the cells of a script, again and again -/
def cellM (ns : List Int) (k : Int) : Int := if ns.length = 0 then k else ns.getD (k % (ns.length : Nat)).toNat 0 % 1000000007 / (1 + k / (ns.length : Nat)) + k / (ns.length : Nat) * k
theorem cellM_nn (ns : List Int) {k : Int} (h : 0 ≤ k) : 0 ≤ cellM ns k := by
  unfold cellM
  split
  · exact h
  · have h1 : 0 ≤ k / (ns.length : Nat) := Int.ediv_nonneg h (by omega)
    have h2 : 0 ≤ ns.getD (k % (ns.length : Nat)).toNat 0 % 1000000007 / (1 + k / (ns.length : Nat)) := Int.ediv_nonneg (by omega) (by omega)
    have h3 : 0 ≤ k / (ns.length : Nat) * k := Int.mul_nonneg h1 h
    omega
/-! ### kinds, starts, what is chosen -/
def kdM (ks : List Str) (k : Int) : Str := ks.getD k.toNat ""
def okKs (es : List Int) (ks : List Str) : Prop := ks.length = es.length ∧ ∀ k : Nat, k < es.length → (innerM es k = [] ∧ kdM ks k = "leaf") ∨ (innerM es k ≠ [] ∧ (kdM ks k = "all" ∨ kdM ks k = "one"))
def okCh (es : List Int) (ks : List Str) (ch : List Int) : Prop := ch.length = es.length ∧ ∀ k : Nat, k < es.length → (kdM ks k = "one" → elD ch k ∈ innerM es k) ∧ (kdM ks k ≠ "one" → elD ch k = -1)
theorem mem_innerM {es : List Int} {k x : Int} : x ∈ innerM es k ↔ 0 ≤ x ∧ x < es.length ∧ elD es x = k := by
  unfold innerM
  rw [List.mem_map]
  constructor
  · rintro ⟨j, m, rfl⟩
    obtain ⟨h1, h2⟩ := List.mem_filter.mp m
    rw [List.mem_range] at h1
    exact ⟨Int.natCast_nonneg j, by show (j : Int) < _; omega, of_decide_eq_true h2⟩
  · rintro ⟨h0, h1, h2⟩
    refine ⟨x.toNat, List.mem_filter.mpr ⟨List.mem_range.mpr (by omega), decide_eq_true ?_⟩, ?_⟩
    · rw [show ((x.toNat : Nat) : Int) = x by omega]; exact h2
    · show ((x.toNat : Nat) : Int) = x; omega
theorem mem_es {es : List Int} {k : Int} (h0 : 0 ≤ k) : k ∈ es ↔ innerM es k ≠ [] := by
  constructor
  · intro m e
    obtain ⟨j, hj⟩ := List.mem_iff_getElem?.mp m
    have hl := (List.getElem?_eq_some_iff.mp hj).1
    have : (j : Int) ∈ innerM es k := mem_innerM.mpr ⟨by omega, by omega, by unfold elD; rw [Int.toNat_natCast, List.getD_eq_getElem?_getD, hj]; rfl⟩
    rw [e] at this; cases this
  · intro h
    obtain ⟨x, hx⟩ := List.exists_mem_of_ne_nil _ h
    obtain ⟨h1, h2, h3⟩ := mem_innerM.mp hx
    rw [← h3]
    unfold elD
    rw [List.getD_eq_getElem?_getD, List.getElem?_eq_getElem (by omega)]
    exact List.getElem_mem (by omega)
theorem okKs.kinds {es : List Int} {ks : List Str} (h : okKs es ks) : ∀ x ∈ ks, PyData.strOk x = true := fun x m => by
  obtain ⟨i, hi⟩ := List.mem_iff_getElem?.mp m
  have hl := (List.getElem?_eq_some_iff.mp hi).1
  have s1 : PyData.strOk "leaf" = true := by decide +kernel
  have s2 : PyData.strOk "all" = true := by decide +kernel
  have s3 : PyData.strOk "one" = true := by decide +kernel
  have e : kdM ks i = x := by unfold kdM; rw [Int.toNat_natCast, List.getD_eq_getElem?_getD, hi]; rfl
  rcases h.2 i (by rw [← h.1]; exact hl) with ⟨_, q⟩ | ⟨_, q | q⟩ <;> (rw [e] at q; rw [q]; assumption)
theorem ix_el {xs : List Int} {k : Int} {Q : D → Prop} (h0 : 0 ≤ k) (h1 : k < xs.length) (q : Q (.int (elD xs k))) : ∃ d, atI (xs.map D.int) k = some d ∧ Q d := ix_lI h0 h1 q
theorem ix_kd {ks : List Str} {k : Nat} {Q : D → Prop} (h1 : k < ks.length) (q : Q (.str (kdM ks k))) : ∃ d, atI (ks.map D.str) (k : Int) = some d ∧ Q d :=
  ix_map (f := D.str) "" (by omega) (by omega) (by unfold kdM at q; exact q)
theorem ix_kdI {ks : List Str} {k : Int} {Q : D → Prop} (h0 : 0 ≤ k) (h1 : k < ks.length) (q : Q (.str (kdM ks k))) : ∃ d, atI (ks.map D.str) k = some d ∧ Q d :=
  ix_map (f := D.str) "" h0 h1 q
theorem getD_mem {α : Type} {xs : List α} {k : Nat} {d : α} (h : k < xs.length) : xs.getD k d ∈ xs := by
  rw [List.getD_eq_getElem?_getD, List.getElem?_eq_getElem h]
  exact List.getElem_mem h
theorem set_lI (bx : List Int) (j : Nat) (x : Int) : (bx.map D.int).set j (.int x) = (bx.set j x).map D.int := by rw [List.map_set]
theorem innerM_le (es : List Int) (k : Int) : (innerM es k).length ≤ es.length := by
  unfold innerM
  rw [List.length_map]
  exact Nat.le_trans (List.length_filter_le _ _) (by rw [List.length_range]; exact Nat.le_refl _)
-- needs: m_aft0 m_same m_cell
/-! ### cells with whole numbers, names, entries of a script -/
def cellR (ns : List Int) (k : Int) : Int := if ns.length = 0 then k else ns.getD (k % (ns.length : Nat)).toNat 0 % 10 ^ 36 / (1 + k / (ns.length : Nat)) + k / (ns.length : Nat) * k
def numR (c : Int) : Int := if c % 4 = 1 then c / 4 % (2 * 10 ^ 30 - 1) - (10 ^ 30 - 1) else c / 4 % 7 - 3
def abcM : Str := "abcdefghijklmnopqrstuvwxyz"
theorem abcM_len : abcM.length = 26 := by decide +kernel
def letR (k : Int) : Str := ⟨#[abcM.cps.toList.getD k.toNat 0]⟩
def nameR (ns : List Int) (k : Int) : Str :=
  let c := cellR ns 60
  let n := Str.ofString (toString k)
  [letR (c / 3 % 26) ++ n, letR (c / 3 % 26) ++ n ++ letR (c / 78 % 26), letR (c / 3 % 26) ++ letR (c / 78 % 26) ++ n].getD (c % 3).toNat ""
theorem all_abcM : abcM.cps.toList.all (fun c => decide (c < 0x110000)) = true := by decide +kernel
theorem strOk_letR (k : Int) : PyData.strOk (letR k) = true := by
  have h := List.all_eq_true.mp all_abcM
  have : abcM.cps.toList.getD k.toNat 0 < 0x110000 := by
    rw [List.getD_eq_getElem?_getD]
    cases e : abcM.cps.toList[k.toNat]? with
    | none => decide
    | some x => exact of_decide_eq_true (h x (List.mem_of_getElem? e))
  show (#[abcM.cps.toList.getD k.toNat 0] : Array Nat).all _ = true
  simpa using this
theorem nameR_ok (ns : List Int) (k : Int) : PyData.strOk (nameR ns k) = true := by
  have h0 := strOk_ofString (toString k)
  have h1 := strOk_letR (cellR ns 60 / 3 % 26)
  have h2 := strOk_letR (cellR ns 60 / 78 % 26)
  have hx : ∀ x ∈ [letR (cellR ns 60 / 3 % 26) ++ Str.ofString (toString k), letR (cellR ns 60 / 3 % 26) ++ Str.ofString (toString k) ++ letR (cellR ns 60 / 78 % 26), letR (cellR ns 60 / 3 % 26) ++ letR (cellR ns 60 / 78 % 26) ++ Str.ofString (toString k)], PyData.strOk x = true := by
    intro x m
    simp only [List.mem_cons, List.not_mem_nil, or_false] at m
    rcases m with rfl | rfl | rfl
    · exact strOk_app h1 h0
    · exact strOk_app (strOk_app h1 h0) h2
    · exact strOk_app (strOk_app h1 h2) h0
  unfold nameR
  dsimp only
  rw [List.getD_eq_getElem?_getD, List.getElem?_eq_getElem (show (cellR ns 60 % 3).toNat < _ by show _ < 3; omega)]
  exact hx _ (List.getElem_mem _)
theorem log_lt {k : Int} (h : k.natAbs < 2 ^ 1900) : k.natAbs.log2 < 1920 := by
  by_cases e : k.natAbs = 0
  · rw [e]; decide
  · exact Nat.lt_of_lt_of_le ((Nat.log2_lt e).mpr h) (by decide)
inductive Ent where
  | mk (w : Str) (rs : List Int)
  | de (d : Deed)
def marksW : List Str := ["out", "keep", "way", "in"]
def eD : Ent → D
  | .mk w rs => .tup (.str w :: rs.map .int)
  | .de d => dD d
def okEn (many : Int) : Ent → Prop
  | .mk w rs => w ∈ marksW ∧ rs.length ≤ 3
  | .de d => okDe many d
def entJ (ns : List Int) (c many : Int) : Ent :=
  let r := c / 7
  if c % 7 = 0 then .mk "out" [r % 41] else if c % 7 = 1 then .mk "keep" [r % 41, r / 41 % 42 - 1, r / 1722 % 41]
  else if c % 7 = 2 then .mk ((["way", "in"] : List Str).getD (r % 2).toNat "") [r / 2 % 41]
  else if c % 7 = 3 then .de (.call (nameR ns (r % 5)))
  else if c % 7 = 4 ∨ many = 0 then .de (.say (nameR ns (r % 5)) (r / 5 % (many + 1) - 1, numR (r / 7)))
  else .de (.put (r % many) (r / many % (many + 1) - 1, numR (r / 3)))
theorem entJ_ok {ns : List Int} {c many : Int} (h : 0 ≤ many) : okEn many (entJ ns c many) := by
  have ht : ∀ x : Int, x % (many + 1) - 1 = -1 ∨ 0 ≤ x % (many + 1) - 1 ∧ x % (many + 1) - 1 < many := fun x => by
    have h1 := Int.emod_nonneg x (show many + 1 ≠ 0 by omega)
    have h2 := Int.emod_lt_of_pos x (show (0 : Int) < many + 1 by omega)
    omega
  unfold entJ
  dsimp only
  split
  · exact ⟨by simp [marksW], by simp⟩
  split
  · exact ⟨by simp [marksW], by simp⟩
  split
  · refine ⟨?_, by simp⟩
    rcases (show c / 7 % 2 = 0 ∨ c / 7 % 2 = 1 by omega) with e | e <;> rw [e] <;> simp [marksW]
  split
  · exact nameR_ok _ _
  split
  · exact ⟨nameR_ok _ _, ht _⟩
  · rename_i h4
    have hm : 0 < many := by omega
    exact ⟨Int.emod_nonneg _ (by omega), Int.emod_lt_of_pos _ hm, ht _⟩
def behE (bx : List Int) : Ent → List Int
  | .mk _ _ => bx
  | .de d => behM bx d
def rowE (bx : List Int) : Ent → List D
  | .mk w rs => .str w :: rs.map .int
  | .de d => rowL bx d
def callE : Ent → List Str
  | .de (.call n) => [n]
  | _ => []
def afterE (bx : List Int) (es : List Ent) : List Int := es.foldl behE bx
def rowsE : List Int → List Ent → List (List D)
  | _, [] => []
  | bx, e :: es => rowE bx e :: rowsE (behE bx e) es
def calledE (es : List Ent) : List Str := es.flatMap callE
theorem behE_len (bx : List Int) (e : Ent) : (behE bx e).length = bx.length := by cases e <;> simp [behE, behM_len]
theorem afterE_snoc (bx : List Int) (a : List Ent) (e : Ent) : afterE bx (a ++ [e]) = behE (afterE bx a) e := by unfold afterE; rw [List.foldl_append]; rfl
theorem afterE_len : ∀ (bx : List Int) (ds : List Ent), (afterE bx ds).length = bx.length
  | _, [] => rfl
  | bx, d :: ds => by
    show (afterE (behE bx d) ds).length = _
    rw [afterE_len, behE_len]
theorem rowsE_snoc : ∀ (bx : List Int) (a : List Ent) (e : Ent), rowsE bx (a ++ [e]) = rowsE bx a ++ [rowE (afterE bx a) e]
  | _, [], _ => rfl
  | bx, d :: a, e => by
    show rowE bx d :: rowsE (behE bx d) (a ++ [e]) = _
    rw [rowsE_snoc]; rfl
theorem rowsE_len : ∀ (bx : List Int) (ds : List Ent), (rowsE bx ds).length = ds.length
  | _, [] => rfl
  | bx, d :: ds => by
    show (rowsE (behE bx d) ds).length + 1 = _
    rw [rowsE_len]; rfl
theorem calledE_snoc (a : List Ent) (e : Ent) : calledE (a ++ [e]) = calledE a ++ callE e := by unfold calledE; rw [List.flatMap_append, List.flatMap_cons, List.flatMap_nil, List.append_nil]
theorem calledE_len (a : List Ent) : (calledE a).length ≤ a.length := by
  induction a with
  | nil => exact Nat.le_refl _
  | cons e a ih =>
    show (callE e ++ calledE a).length ≤ _
    have : (callE e).length ≤ 1 := by cases e with | mk _ _ => exact Nat.zero_le _ | de d => cases d <;> simp [callE]
    rw [List.length_append, List.length_cons]; omega
theorem marksW_ok {w : Str} (h : w ∈ marksW) : PyData.strOk w = true := by
  have : marksW.all PyData.strOk = true := by decide +kernel
  exact List.all_eq_true.mp this w h
theorem rowE_sc {bx : List Int} {e : Ent} {m : Int} (h : okEn m e) : ∀ r ∈ rowE bx e, scD r := by
  cases e with
  | mk w rs =>
    intro r hr
    rcases List.mem_cons.mp hr with rfl | hr
    · exact marksW_ok h.1
    · obtain ⟨i, _, rfl⟩ := List.mem_map.mp hr; trivial
  | de d => exact rowL_sc h
theorem rowE_len {bx : List Int} {e : Ent} {m : Int} (h : okEn m e) : (rowE bx e).length ≤ 4 := by
  cases e with
  | mk w rs => have := h.2; show (rs.map D.int).length + 1 ≤ 4; rw [List.length_map]; omega
  | de d => exact rowL_len _ _
theorem rowsE_sc : ∀ {ds : List Ent} {bx : List Int} {m : Int}, (∀ d ∈ ds, okEn m d) → ∀ rs ∈ rowsE bx ds, (∀ r ∈ rs, scD r) ∧ rs.length ≤ 4
  | [], _, _, _, rs, h => by cases h
  | d :: ds, bx, m, h, rs, hm => by
    rcases List.mem_cons.mp hm with rfl | hm
    · exact ⟨rowE_sc (h d List.mem_cons_self), rowE_len (h d List.mem_cons_self)⟩
    · exact rowsE_sc (bx := behE bx d) (fun x q => h x (List.mem_cons_of_mem _ q)) rs hm
theorem noOwn_eD (e : Ent) : noOwn (eD e) = true := by
  cases e with
  | mk w rs => show (true && noOwnL (rs.map D.int)) = true; rw [noOwnL_map D.int (fun _ => rfl)]; rfl
  | de d => exact noOwn_dD d
theorem frz_eD (d : Ent) : frz (eD d) = eD d := frz_id _ (noOwn_eD d)
theorem frzL_eD (ds : List Ent) : frzL (ds.map eD) = ds.map eD := frzL_map_id eD frz_eD ds
theorem noOwnL_eD (ds : List Ent) : noOwnL (ds.map eD) = true := noOwnL_map eD noOwn_eD ds
theorem eD_mk (w : Str) (rs : List Int) : eD (.mk w rs) = .tup (.str w :: rs.map .int) := rfl
theorem eD_put (b : Int) (t : Int × Int) : eD (.de (.put b t)) = .tup [.str "put", .int b, tD t.1 t.2] := rfl
theorem eD_call (n : Str) : eD (.de (.call n)) = .tup [.str "call", .str n] := rfl
theorem eD_say (n : Str) (t : Int × Int) : eD (.de (.say n t)) = .tup [.str "say", .str n, tD t.1 t.2] := rfl
theorem okS_sc {n : Nat} {r : D} (h : scD r) : okS (n + 1) r = true := by
  cases r <;> first | rfl | exact h | exact False.elim h
theorem okS_eD {m : Int} {e : Ent} (h : okEn m e) (n : Nat) : okS (n + 3) (eD e) = true := by
  have h1 : PyData.strOk "put" = true := by decide +kernel
  have h2 : PyData.strOk "call" = true := by decide +kernel
  have h3 : PyData.strOk "say" = true := by decide +kernel
  have ht : ∀ a b, okS (n + 2) (tD a b) = true := fun a b => okS_tup (by show 2 < 2 ^ 62; decide) fun x hx => by
    simp only [List.mem_cons, List.not_mem_nil, or_false] at hx
    rcases hx with rfl | rfl <;> rfl
  cases e with
  | mk w rs =>
    refine okS_tup ?_ fun x hx => ?_
    · have := h.2; rw [List.length_cons, List.length_map]; omega
    · exact okS_sc (rowE_sc (bx := []) h x hx)
  | de d =>
    cases d with
    | put b t =>
      refine okS_tup (by show 3 < 2 ^ 62; decide) fun x hx => ?_
      simp only [List.mem_cons, List.not_mem_nil, or_false] at hx
      rcases hx with rfl | rfl | rfl
      · exact h1
      · rfl
      · exact ht _ _
    | call x =>
      refine okS_tup (by show 2 < 2 ^ 62; decide) fun x hx => ?_
      simp only [List.mem_cons, List.not_mem_nil, or_false] at hx
      rcases hx with rfl | rfl
      · exact h2
      · exact h
    | say x t =>
      refine okS_tup (by show 3 < 2 ^ 62; decide) fun x hx => ?_
      simp only [List.mem_cons, List.not_mem_nil, or_false] at hx
      rcases hx with rfl | rfl | rfl
      · exact h3
      · exact h.1
      · exact ht _ _
theorem marksW_ne {w : Str} (h : w ∈ marksW) : w ≠ "put" ∧ w ≠ "say" ∧ w ≠ "call" := by
  simp only [marksW, List.mem_cons, List.not_mem_nil, or_false] at h
  rcases h with rfl | rfl | rfl | rfl <;> exact ⟨by decide +kernel, by decide +kernel, by decide +kernel⟩
theorem marksW_in {w : Str} (h : w ∈ marksW) : ((["out", "keep", "way", "in"] : List Str).map D.str).any (fun d => deq d (.str w)) = true := by
  simp only [marksW, List.mem_cons, List.not_mem_nil, or_false] at h
  rcases h with rfl | rfl | rfl | rfl <;> decide +kernel
-- needs: m_tree
theorem upM_trans {es : List Int} (h : okE es) : ∀ (n : Nat) (a : Int), a < n → -1 ≤ a → a < es.length → ∀ x ∈ upM es a, ∀ y ∈ aboveM es x, y ∈ upM es a
  | 0, a, hn, h0, _, x, m, _, _ => by
    have : a = -1 := by omega
    subst this; cases m
  | n + 1, a, hn, h0, h1, x, m, y, my => by
    by_cases e : a = -1
    · subst e; cases m
    · have he := h.int (k := a) (by omega) h1
      have us := upM_step h (by omega) h1
      rw [us] at m ⊢
      rcases List.mem_cons.mp m with rfl | m
      · exact List.mem_cons_of_mem _ my
      · exact List.mem_cons_of_mem _ (upM_trans h n (elD es a) (by omega) he.1 (by omega) x m y my)
theorem aboveM_trans {es : List Int} (h : okE es) {k x y : Int} (h0 : 0 ≤ k) (h1 : k < es.length) (m : x ∈ aboveM es k) (my : y ∈ aboveM es x) : y ∈ aboveM es k := by
  have he := h.int h0 h1
  exact upM_trans h es.length (elD es k) (by omega) he.1 (by omega) x m y my
-- needs: m_cell m_trans
/-! ### open moods -/
structure okOp (es : List Int) (ks : List Str) (ch op : List Int) : Prop where
  rise : op.Pairwise (· < ·)
  mem : ∀ x, x ∈ op ↔ 0 ≤ x ∧ x < es.length ∧ (x = 0 ∨ (elD es x ∈ op ∧ (kdM ks (elD es x) = "all" ∨ elD ch (elD es x) = x)))
theorem okOp.bnd {es : List Int} {ks : List Str} {ch op : List Int} (h : okOp es ks ch op) {x : Int} (m : x ∈ op) : 0 ≤ x ∧ x < es.length := ⟨((h.mem x).mp m).1, ((h.mem x).mp m).2.1⟩
theorem rise_len : ∀ {op : List Int} {lo hi : Int}, op.Pairwise (· < ·) → (∀ x ∈ op, lo ≤ x ∧ x < hi) → (op.length : Int) ≤ if lo ≤ hi then hi - lo else 0
  | [], lo, hi, _, _ => by simp; split <;> omega
  | a :: op, lo, hi, h, hb => by
    have ha := hb a List.mem_cons_self
    have h' := List.pairwise_cons.mp h
    have ih := rise_len (lo := a + 1) (hi := hi) h'.2 fun x m => ⟨by have := h'.1 x m; omega, (hb x (List.mem_cons_of_mem _ m)).2⟩
    rw [List.length_cons]
    rw [if_pos (by omega)] at ih
    rw [if_pos (by omega)]
    omega
theorem okOp.len {es : List Int} {ks : List Str} {ch op : List Int} (h : okOp es ks ch op) : op.length ≤ es.length := by
  have := rise_len (lo := 0) (hi := es.length) h.rise fun x m => h.bnd m
  rw [if_pos (by omega)] at this
  omega
-- needs: m_cell m_trans m_opens
/-! ### what opens with a mood -/
def deepM (mode : Str) : Str := if mode = "far" then "far" else "new"
def goalM (ss mem : List Int) (k : Int) (mode : Str) : Int := if mode ≠ "new" ∧ elD mem k ≠ -1 then elD mem k else elD ss k
def opnF (es : List Int) (ks : List Str) (ss mem : List Int) : Nat → Int → Str → List Int
  | 0, m, _ => [m]
  | f + 1, m, mode => m :: ((if kdM ks m = "one" then opnF es ks ss mem f (goalM ss mem m mode) (deepM mode) else []) ++ (if kdM ks m = "all" then (innerM es m).flatMap fun x => opnF es ks ss mem f x (deepM mode) else []))
def okMem (es : List Int) (ks : List Str) (mem : List Int) : Prop := mem.length = es.length ∧ ∀ k : Nat, k < es.length → (kdM ks k = "one" → elD mem k = -1 ∨ elD mem k ∈ innerM es k) ∧ (kdM ks k ≠ "one" → elD mem k = -1)
def okMode (mode : Str) : Prop := mode = "new" ∨ mode = "near" ∨ mode = "far"
theorem okMode_deep (mode : Str) : okMode (deepM mode) := by
  unfold deepM okMode
  split
  · exact .inr (.inr rfl)
  · exact .inl rfl
structure okOpn (es : List Int) (ks : List Str) (ss mem : List Int) : Prop where
  tree : okTree es
  kk : okKs es ks
  hs : okCh es ks ss
  hm : okMem es ks mem
theorem s_ne1 : (("all" : Str) ≠ "one") ∧ (("leaf" : Str) ≠ "one") ∧ (("leaf" : Str) ≠ "all") ∧ (("new" : Str) ≠ "far") ∧ (("near" : Str) ≠ "far") ∧ (("near" : Str) ≠ "new") := by decide +kernel
theorem okOpn.goal {es : List Int} {ks : List Str} {ss mem : List Int} (h : okOpn es ks ss mem) {m : Int} (m0 : 0 ≤ m) (m1 : m < es.length) (mode : Str) (hk : kdM ks m = "one") : goalM ss mem m mode ∈ innerM es m := by
  have a := (h.hs.2 m.toNat (by omega)).1
  have b := (h.hm.2 m.toNat (by omega)).1
  rw [show ((m.toNat : Nat) : Int) = m by omega] at a b
  unfold goalM
  split
  · rename_i h2
    exact (b hk).resolve_left h2.2
  · exact a hk
theorem inner_up {es : List Int} (h : okE es) {m x : Int} (m0 : 0 ≤ m) (hx : x ∈ innerM es m) : 0 ≤ x ∧ x < es.length ∧ m < x ∧ aboveM es x = m :: aboveM es m := by
  obtain ⟨h1, h2, h3⟩ := mem_innerM.mp hx
  have he := h.int h1 h2
  rw [h3] at he
  refine ⟨h1, h2, he.2, ?_⟩
  unfold aboveM
  rw [h3, upM_step h m0 (by omega)]; rfl
theorem opnF_fuel {es : List Int} {ks : List Str} {ss mem : List Int} (h : okOpn es ks ss mem) : ∀ (f g : Nat) (m : Int) (mode : Str), 0 ≤ m → m < es.length → (es.length : Int) - m ≤ f → (es.length : Int) - m ≤ g → opnF es ks ss mem f m mode = opnF es ks ss mem g m mode
  | 0, _, m, mode, m0, m1, hf, _ => by omega
  | f + 1, 0, m, mode, m0, m1, _, hg => by omega
  | f + 1, g + 1, m, mode, m0, m1, hf, hg => by
    have ho := h.tree.ok
    unfold opnF
    have e1 : (if kdM ks m = "one" then opnF es ks ss mem f (goalM ss mem m mode) (deepM mode) else []) = (if kdM ks m = "one" then opnF es ks ss mem g (goalM ss mem m mode) (deepM mode) else []) := by
      split
      · rename_i hk
        have := inner_up ho m0 (h.goal m0 m1 mode hk)
        exact opnF_fuel h f g _ _ this.1 this.2.1 (by omega) (by omega)
      · rfl
    have e2 : (if kdM ks m = "all" then (innerM es m).flatMap fun x => opnF es ks ss mem f x (deepM mode) else []) = (if kdM ks m = "all" then (innerM es m).flatMap fun x => opnF es ks ss mem g x (deepM mode) else []) := by
      split
      · rw [List.flatMap_def, List.flatMap_def]
        congr 1
        refine List.map_congr_left fun x hx => ?_
        have := inner_up ho m0 hx
        exact opnF_fuel h f g _ _ this.1 this.2.1 (by omega) (by omega)
      · rfl
    rw [e1, e2]
/-- what opens lies within -/
theorem opnF_sub {es : List Int} {ks : List Str} {ss mem : List Int} (h : okOpn es ks ss mem) : ∀ (f : Nat) (m : Int) (mode : Str), 0 ≤ m → m < es.length → ∀ x ∈ opnF es ks ss mem f m mode, 0 ≤ x ∧ x < es.length ∧ (x = m ∨ m ∈ aboveM es x)
  | 0, m, mode, m0, m1, x, hx => by
    have := List.mem_singleton.mp hx
    subst this; exact ⟨m0, m1, .inl rfl⟩
  | f + 1, m, mode, m0, m1, x, hx => by
    have ho := h.tree.ok
    have sub : ∀ y md, y ∈ innerM es m → x ∈ opnF es ks ss mem f y md → 0 ≤ x ∧ x < es.length ∧ (x = m ∨ m ∈ aboveM es x) := fun y md hy hx => by
      have hu := inner_up ho m0 hy
      have := opnF_sub h f y md hu.1 hu.2.1 x hx
      refine ⟨this.1, this.2.1, .inr ?_⟩
      have my : m ∈ aboveM es y := by rw [hu.2.2.2]; exact List.mem_cons_self
      rcases this.2.2 with rfl | k
      · exact my
      · exact aboveM_trans ho this.1 this.2.1 k my
    unfold opnF at hx
    rcases List.mem_cons.mp hx with rfl | hx
    · exact ⟨m0, m1, .inl rfl⟩
    · rcases List.mem_append.mp hx with hx | hx
      · split at hx
        · rename_i hk
          exact sub _ _ (h.goal m0 m1 mode hk) hx
        · cases hx
      · split at hx
        · obtain ⟨y, hy, hx⟩ := List.mem_flatMap.mp hx
          exact sub y _ hy hx
        · cases hx
/-- all between a mood and one within it lie within it -/
theorem sub_down {es : List Int} (t : okTree es) {x : Int} : ∀ (n : Nat) (z w : Int), z - w ≤ n → x ∈ aboveM es z → 0 ≤ z → z < es.length → x < w → w ≤ z → x ∈ aboveM es w
  | 0, z, w, hn, hx, _, _, _, hw => by
    have : w = z := by omega
    subst this; exact hx
  | n + 1, z, w, hn, hx, z0, z1, hxw, hw => by
    by_cases e : w = z
    · subst e; exact hx
    · have ho := t.ok
      have hm := aboveM_mem ho z0 z1 hx
      have hp := t.pre (z - 1).toNat (by omega)
      rw [show (((z - 1).toNat + 1 : Nat) : Int) = z by omega, show (((z - 1).toNat : Nat) : Int) = z - 1 by omega] at hp
      have hz : aboveM es z = upM es (elD es z) := rfl
      have he := ho.int z0 z1
      have hx2 : x = elD es z ∨ x ∈ aboveM es (elD es z) := by
        rw [hz] at hx
        by_cases e0 : elD es z = -1
        · rw [e0, upM_neg] at hx; cases hx
        · rw [upM_step ho (by omega) (by omega)] at hx
          exact List.mem_cons.mp hx
      have hz1 : x ∈ aboveM es (z - 1) := by
        rcases List.mem_cons.mp hp with hp | hp
        · rw [hp] at hx2
          exact hx2.resolve_left (by omega)
        · rcases hx2 with rfl | hx2
          · exact hp
          · exact aboveM_trans ho (by omega) (by omega) hp hx2
      exact sub_down t n (z - 1) w (by omega) hz1 (by omega) (by omega) hxw (by omega)
/-- two inner moods: all within the first one stand ahead of the second one -/
theorem sib_lt {es : List Int} (t : okTree es) {m x y z : Int} (m0 : 0 ≤ m) (hx : x ∈ innerM es m) (hy : y ∈ innerM es m) (hxy : x < y) (z0 : 0 ≤ z) (z1 : z < es.length) (hz : z = x ∨ x ∈ aboveM es z) : z < y := by
  have ho := t.ok
  have ux := inner_up ho m0 hx
  have uy := inner_up ho m0 hy
  rcases hz with rfl | hz
  · exact hxy
  · refine Classical.byContradiction fun hn => ?_
    have := sub_down t (z - y).toNat z y (by omega) hz z0 z1 hxy (by omega)
    rw [uy.2.2.2] at this
    rcases List.mem_cons.mp this with e | hm
    · omega
    · have := aboveM_mem ho m0 (by omega) hm
      omega
theorem innerM_rise (es : List Int) (k : Int) : (innerM es k).Pairwise (· < ·) := by
  unfold innerM
  rw [List.pairwise_map]
  exact (List.pairwise_lt_range.sublist List.filter_sublist).imp fun h => by show (_ : Int) < _; simpa using h
theorem opnF_rise {es : List Int} {ks : List Str} {ss mem : List Int} (h : okOpn es ks ss mem) : ∀ (f : Nat) (m : Int) (mode : Str), 0 ≤ m → m < es.length → (opnF es ks ss mem f m mode).Pairwise (· < ·)
  | 0, m, mode, _, _ => List.pairwise_singleton _ _
  | f + 1, m, mode, m0, m1 => by
    have ho := h.tree.ok
    unfold opnF
    have above : ∀ y md, y ∈ innerM es m → ∀ x ∈ opnF es ks ss mem f y md, m < x := fun y md hy x hx => by
      have hu := inner_up ho m0 hy
      have hs := opnF_sub h f y md hu.1 hu.2.1 x hx
      rcases hs.2.2 with rfl | k
      · exact hu.2.2.1
      · have := aboveM_mem ho hs.1 hs.2.1 k
        omega
    by_cases hk : kdM ks m = "one"
    · have hg := h.goal m0 m1 mode hk
      have hu := inner_up ho m0 hg
      rw [if_pos hk, if_neg (by rw [hk]; exact fun e => s_ne1.1 e.symm), List.append_nil]
      exact List.pairwise_cons.mpr ⟨fun x hx => above _ _ hg x hx, opnF_rise h f _ _ hu.1 hu.2.1⟩
    · rw [if_neg hk, List.nil_append]
      split
      · refine List.pairwise_cons.mpr ⟨fun x hx => ?_, ?_⟩
        · obtain ⟨y, hy, hx⟩ := List.mem_flatMap.mp hx
          exact above y _ hy x hx
        · rw [List.pairwise_flatMap]
          refine ⟨fun y hy => ?_, ?_⟩
          · have hu := inner_up ho m0 hy
            exact opnF_rise h f _ _ hu.1 hu.2.1
          · have hr := innerM_rise es m
            refine List.Pairwise.imp_of_mem (fun {a b} ha hb hab x hx y hy => ?_) hr
            have ua := inner_up ho m0 ha
            have ub := inner_up ho m0 hb
            have sa := opnF_sub h f a _ ua.1 ua.2.1 x hx
            have sb := opnF_sub h f b _ ub.1 ub.2.1 y hy
            have h1 := sib_lt h.tree m0 ha hb hab sa.1 sa.2.1 sa.2.2
            rcases sb.2.2 with rfl | k
            · exact h1
            · have := aboveM_mem ho sb.1 sb.2.1 k
              omega
      · exact List.pairwise_singleton _ _
theorem rise_ext : ∀ {xs ys : List Int}, xs.Pairwise (· < ·) → ys.Pairwise (· < ·) → (∀ x, x ∈ xs ↔ x ∈ ys) → xs = ys
  | [], [], _, _, _ => rfl
  | [], y :: ys, _, _, h => absurd ((h y).mpr List.mem_cons_self) (by simp)
  | x :: xs, [], _, _, h => absurd ((h x).mp List.mem_cons_self) (by simp)
  | x :: xs, y :: ys, hx, hy, h => by
    have px := List.pairwise_cons.mp hx
    have py := List.pairwise_cons.mp hy
    have e : x = y := by
      have h1 := (h x).mp List.mem_cons_self
      have h2 := (h y).mpr List.mem_cons_self
      rcases List.mem_cons.mp h1 with e | h1
      · exact e
      · rcases List.mem_cons.mp h2 with e | h2
        · exact e.symm
        · have := py.1 x h1; have := px.1 y h2; omega
    subst e
    rw [rise_ext px.2 py.2 fun z => ?_]
    constructor
    · intro m
      have := px.1 z m
      exact (List.mem_cons.mp ((h z).mp (List.mem_cons_of_mem _ m))).resolve_left (by omega)
    · intro m
      have := py.1 z m
      exact (List.mem_cons.mp ((h z).mpr (List.mem_cons_of_mem _ m))).resolve_left (by omega)
/-- the way on, as the law tells it: e the elder, m the first mood -/
def goal2 (ss mem : List Int) (m e : Int) (mode : Str) : Int := if (mode = "far" ∨ (mode = "near" ∧ e = m)) ∧ elD mem e ≠ -1 then elD mem e else elD ss e
def condM (ks : List Str) (ss mem : List Int) (m e x : Int) (mode : Str) : Prop := kdM ks e = "all" ∨ goal2 ss mem m e mode = x
theorem goal2_self {ss mem : List Int} {m : Int} {mode : Str} (hm : okMode mode) : goal2 ss mem m m mode = goalM ss mem m mode := by
  unfold goal2 goalM
  have : (mode = "far" ∨ (mode = "near" ∧ True)) ↔ mode ≠ "new" := by
    rcases hm with rfl | rfl | rfl
    · simp [s_ne1.2.2.2.1, Ne.symm s_ne1.2.2.2.2.2]
    · simp [s_ne1.2.2.2.2.2]
    · simp [Ne.symm s_ne1.2.2.2.1]
  simp only [this]
theorem goal2_deep {ss mem : List Int} {m m' e : Int} {mode : Str} (hm : okMode mode) (h : e ≠ m) : goal2 ss mem m' e (deepM mode) = goal2 ss mem m e mode := by
  unfold goal2
  have : (deepM mode = "far" ∨ (deepM mode = "near" ∧ e = m')) ↔ (mode = "far" ∨ (mode = "near" ∧ e = m)) := by
    unfold deepM
    by_cases e1 : mode = "far"
    · subst e1; simp
    · simp [e1, h, s_ne1.2.2.2.1, Ne.symm s_ne1.2.2.2.2.2]
  simp only [this]
theorem opnF_mem {es : List Int} {ks : List Str} {ss mem : List Int} (h : okOpn es ks ss mem) : ∀ (f : Nat) (m : Int) (mode : Str), okMode mode → 0 ≤ m → m < es.length → (es.length : Int) - m ≤ f → ∀ x, x ∈ opnF es ks ss mem f m mode ↔ x = m ∨ (m < x ∧ x < es.length ∧ elD es x ∈ opnF es ks ss mem f m mode ∧ condM ks ss mem m (elD es x) x mode)
  | 0, m, mode, _, m0, m1, hf, _ => by omega
  | f + 1, m, mode, hmo, m0, m1, hf, x => by
    have ho := h.tree.ok
    have tail : ∀ z, z ∈ opnF es ks ss mem (f + 1) m mode ↔ z = m ∨ ∃ y, y ∈ innerM es m ∧ (kdM ks m = "all" ∨ goalM ss mem m mode = y) ∧ z ∈ opnF es ks ss mem f y (deepM mode) := fun z => by
      show z ∈ m :: _ ↔ _
      rw [List.mem_cons, List.mem_append]
      constructor
      · rintro (e | hz | hz)
        · exact .inl e
        · split at hz
          · rename_i hk
            exact .inr ⟨_, h.goal m0 m1 mode hk, .inr rfl, hz⟩
          · cases hz
        · split at hz
          · rename_i hk
            obtain ⟨y, hy, hz⟩ := List.mem_flatMap.mp hz
            exact .inr ⟨y, hy, .inl hk, hz⟩
          · cases hz
      · rintro (e | ⟨y, hy, hc, hz⟩)
        · exact .inl e
        · have hkind := h.kk.2 m.toNat (by omega)
          rw [show ((m.toNat : Nat) : Int) = m by omega] at hkind
          rcases hkind with ⟨e, _⟩ | ⟨_, hk | hk⟩
          · rw [e] at hy; cases hy
          · refine .inr (.inr ?_)
            rw [if_pos hk]
            exact List.mem_flatMap.mpr ⟨y, hy, hz⟩
          · refine .inr (.inl ?_)
            rw [if_pos hk]
            rcases hc with hc | hc
            · rw [hk] at hc; exact absurd hc.symm s_ne1.1
            · rw [hc]; exact hz
    rw [tail x]
    constructor
    · rintro (e | ⟨y, hy, hc, hz⟩)
      · exact .inl e
      · have hu := inner_up ho m0 hy
        have ih := (opnF_mem h f y (deepM mode) (okMode_deep mode) hu.1 hu.2.1 (by omega) x).mp hz
        have hs := opnF_sub h f y _ hu.1 hu.2.1 x hz
        rcases ih with rfl | ⟨h1, h2, h3, h4⟩
        · refine .inr ⟨hu.2.2.1, hu.2.1, ?_, ?_⟩
          · rw [(mem_innerM.mp hy).2.2, tail]; exact .inl rfl
          · unfold condM
            rw [(mem_innerM.mp hy).2.2, goal2_self hmo]
            exact hc
        · have hs3 := opnF_sub h f y _ hu.1 hu.2.1 _ h3
          have ne : elD es x ≠ m := by
            rcases hs3.2.2 with e | k
            · rw [e]; omega
            · have := aboveM_mem ho hs3.1 hs3.2.1 k
              omega
          refine .inr ⟨by omega, h2, (tail _).mpr (.inr ⟨y, hy, hc, h3⟩), ?_⟩
          unfold condM at h4 ⊢
          rw [goal2_deep hmo ne] at h4
          exact h4
    · rintro (e | ⟨h1, h2, h3, h4⟩)
      · exact .inl e
      · right
        unfold condM at h4
        by_cases e : elD es x = m
        · rw [e, goal2_self hmo] at h4
          have hx : x ∈ innerM es m := mem_innerM.mpr ⟨by omega, h2, e⟩
          refine ⟨x, hx, h4, ?_⟩
          cases f with
          | zero => exact List.mem_singleton.mpr rfl
          | succ f => exact List.mem_cons_self
        · rcases (tail _).mp h3 with e2 | ⟨y, hy, hc, hz⟩
          · exact absurd e2 e
          · have hu := inner_up ho m0 hy
            refine ⟨y, hy, hc, ?_⟩
            have hs := opnF_sub h f y _ hu.1 hu.2.1 _ hz
            have he := ho.int (k := x) (by omega) h2
            have hle : y ≤ elD es x := by
              rcases hs.2.2 with e | k
              · omega
              · have := aboveM_mem ho hs.1 hs.2.1 k
                omega
            refine (opnF_mem h f y (deepM mode) (okMode_deep mode) hu.1 hu.2.1 (by omega) x).mpr (.inr ⟨by omega, h2, hz, ?_⟩)
            unfold condM
            rw [goal2_deep hmo e]
            exact h4
/-- a rising list that is made by the same rule -/
theorem opnF_uniq {es : List Int} {ks : List Str} {ss mem : List Int} (h : okOpn es ks ss mem) {m : Int} {mode : Str} (hmo : okMode mode) (m0 : 0 ≤ m) (m1 : m < es.length) {xs : List Int} (hr : xs.Pairwise (· < ·))
    (hx : ∀ x, x ∈ xs ↔ x = m ∨ (m < x ∧ x < es.length ∧ elD es x ∈ xs ∧ condM ks ss mem m (elD es x) x mode)) : xs = opnF es ks ss mem es.length m mode := by
  have ho := h.tree.ok
  refine rise_ext hr (opnF_rise h _ _ _ m0 m1) ?_
  have key : ∀ (n : Nat) (x : Int), x < n → (x ∈ xs ↔ x ∈ opnF es ks ss mem es.length m mode) := by
    intro n
    induction n with
    | zero =>
      intro x hn
      rw [hx, opnF_mem h _ _ _ hmo m0 m1 (by omega)]
      constructor <;> rintro (e | ⟨h1, _⟩) <;> omega
    | succ n ih =>
      intro x hn
      rw [hx, opnF_mem h _ _ _ hmo m0 m1 (by omega)]
      by_cases hb : m < x ∧ x < es.length
      · have he := ho.int (k := x) (by omega) hb.2
        rw [ih (elD es x) (by omega)]
      · constructor <;> rintro (e | ⟨h1, h2, _⟩)
        · exact .inl e
        · exact absurd ⟨h1, h2⟩ hb
        · exact .inl e
        · exact absurd ⟨h1, h2⟩ hb
  exact fun x => key (x.toNat + 1) x (by omega)
-- needs: m_cell m_trans
theorem getD_snoc {α : Type} (xs : List α) (x d : α) (k : Nat) : (xs ++ [x]).getD k d = if k = xs.length then x else xs.getD k d := by
  by_cases h : k < xs.length
  · rw [if_neg (by omega), List.getD_eq_getElem?_getD, List.getElem?_append_left h, ← List.getD_eq_getElem?_getD]
  · by_cases e : k = xs.length
    · subst e; simp [List.getD]
    · rw [if_neg e, List.getD_eq_getElem?_getD, List.getD_eq_getElem?_getD, List.getElem?_eq_none (by simp; omega), List.getElem?_eq_none (by omega)]
theorem kdM_snoc (ks : List Str) (x : Str) (k : Nat) : kdM (ks ++ [x]) k = if k = ks.length then x else kdM ks k := by
  unfold kdM; rw [Int.toNat_natCast]; exact getD_snoc _ _ _ _
theorem elD_snoc (ks : List Int) (x : Int) (k : Nat) : elD (ks ++ [x]) k = if k = ks.length then x else elD ks k := by
  unfold elD; rw [Int.toNat_natCast]; exact getD_snoc _ _ _ _
theorem depths0 : ∀ j : Nat, j < ([-1] : List Int).length → ([0] : List Int).getD j 0 = ((aboveM [-1] (j : Int)).length : Nat) := fun j h => by
  have e : j = 0 := by
    have : j < 1 := h
    omega
  subst e; rfl
def sp_Tree_init : SpM := fun ds Q => ∃ m1 m2 m3 a b c, ds = [.obj true "Tree" [] [], .lst m1 a, .lst m2 b, .lst m3 c] ∧ noOwnL a = true ∧ noOwnL b = true ∧ noOwnL c = true ∧
  Q .non [.obj true "Tree" ["kinds", "elders", "starts"] [.lst true a, .lst true b, .lst true c], .lst m1 a, .lst m2 b, .lst m3 c]
theorem len_Tree_init : ∀ ds Q, sp_Tree_init ds Q → ds.length = 4 := by rintro _ _ ⟨_, _, _, _, _, _, rfl, _⟩; rfl
theorem n_ke : ¬ (("kinds" : Str) = "elders") := by decide +kernel
theorem n_ks : ¬ (("kinds" : Str) = "starts") := by decide +kernel
theorem n_es : ¬ (("elders" : Str) = "starts") := by decide +kernel
theorem d_Tree_init : ∀ ds Q, sp_Tree_init ds Q → w_Tree_init { nx := fun env => ∃ ds', backD [0] env 0 ds = some ds' ∧ Q .non ds', rt := fun d env => ∃ ds', backD [0] env 0 ds = some ds' ∧ Q d ds' } (env0 4 ds) := by
  rintro _ Q ⟨m1, m2, m3, a, b, c, rfl, na, nb, nc, q⟩
  unfold w_Tree_init
  refine sq_i ?_
  walk_at "vx"
  refine ⟨na, by decide +kernel, by decide, ?_⟩
  rw [show putN "kinds" [] = [("kinds" : Str)] from rfl, show putX "kinds" (D.lst true a) [] [] = [.lst true a] from rfl]
  refine sq_i ?_
  walk_at "vx"
  refine ⟨nb, by decide +kernel, by decide, ?_⟩
  rw [show putN "elders" [("kinds" : Str)] = [("kinds" : Str), "elders"] from if_neg n_ke, show putX "elders" (D.lst true b) [("kinds" : Str)] [.lst true a] = [.lst true a, .lst true b] from if_neg n_ke]
  walk_at "vx"
  refine ⟨nc, by decide +kernel, by decide, _, rfl, ?_⟩
  rw [show putN "starts" [("kinds" : Str), "elders"] = [("kinds" : Str), "elders", "starts"] by rw [putN, if_neg n_ks, putN, if_neg n_es]; rfl, show putX "starts" (D.lst true c) [("kinds" : Str), "elders"] [.lst true a, .lst true b] = [.lst true a, .lst true b, .lst true c] by rw [putX, if_neg n_ks, putX, if_neg n_es]; rfl]
  exact q
-- needs: m_tree Tree_init
def chN : List Str := ["boxes", "names", "tree", "ins", "outs", "ways"]
def sp_Chart_init : SpM := fun ds Q => ∃ m1 m2 m3 m4 m5 m6 bs nm ks es ss il ol wl, ds = [.obj true "Chart" [] [], .lst m1 bs, .lst m2 nm, treeD m3 ks es ss, .lst m4 il, .lst m5 ol, .lst m6 wl] ∧
  noOwnL bs = true ∧ noOwnL nm = true ∧ noOwnL il = true ∧ noOwnL ol = true ∧ noOwnL wl = true ∧
  Q .non [.obj true "Chart" chN [.lst true bs, .lst true nm, treeD true ks es ss, .lst true il, .lst true ol, .lst true wl], .lst m1 bs, .lst m2 nm, treeD m3 ks es ss, .lst m4 il, .lst m5 ol, .lst m6 wl]
theorem len_Chart_init : ∀ ds Q, sp_Chart_init ds Q → ds.length = 7 := by rintro _ _ ⟨_, _, _, _, _, _, _, _, _, _, _, _, _, _, rfl, _⟩; rfl
theorem chN_ne : (("boxes" : Str) ≠ "names" ∧ ("boxes" : Str) ≠ "tree" ∧ ("boxes" : Str) ≠ "ins" ∧ ("boxes" : Str) ≠ "outs" ∧ ("boxes" : Str) ≠ "ways") ∧ (("names" : Str) ≠ "tree" ∧ ("names" : Str) ≠ "ins" ∧ ("names" : Str) ≠ "outs" ∧ ("names" : Str) ≠ "ways") ∧
  (("tree" : Str) ≠ "ins" ∧ ("tree" : Str) ≠ "outs" ∧ ("tree" : Str) ≠ "ways") ∧ (("ins" : Str) ≠ "outs" ∧ ("ins" : Str) ≠ "ways") ∧ ("outs" : Str) ≠ "ways" := by decide +kernel
theorem putN_new {f : Str} : ∀ {ns : List Str}, (∀ n ∈ ns, n ≠ f) → putN f ns = ns ++ [f]
  | [], _ => rfl
  | n :: ns, h => by
    rw [putN, if_neg (h n List.mem_cons_self), putN_new fun x m => h x (List.mem_cons_of_mem _ m)]; rfl
theorem putX_new {α : Type} {f : Str} {x : α} : ∀ {ns : List Str} {xs : List α}, ns.length = xs.length → (∀ n ∈ ns, n ≠ f) → putX f x ns xs = xs ++ [x]
  | [], [], _, _ => rfl
  | [], _ :: _, l, _ => by simp at l
  | _ :: _, [], l, _ => by simp at l
  | n :: ns, y :: ys, l, h => by
    rw [putX, if_neg (h n List.mem_cons_self), putX_new (by simpa using l) fun x m => h x (List.mem_cons_of_mem _ m)]; rfl
theorem d_Chart_init : ∀ ds Q, sp_Chart_init ds Q → w_Chart_init sp_Tree_init { nx := fun env => ∃ ds', backD [0] env 0 ds = some ds' ∧ Q .non ds', rt := fun d env => ∃ ds', backD [0] env 0 ds = some ds' ∧ Q d ds' } (env0 7 ds) := by
  rintro _ Q ⟨m1, m2, m3, m4, m5, m6, bs, nm, ks, es, ss, il, ol, wl, rfl, n1, n2, n4, n5, n6, q⟩
  obtain ⟨⟨a1, a2, a3, a4, a5⟩, ⟨b2, b3, b4, b5⟩, ⟨c3, c4, c5⟩, ⟨d4, d5⟩, e5⟩ := chN_ne
  unfold w_Chart_init
  refine sq_i ?_
  walk_at "vx"
  refine ⟨n1, by decide +kernel, by decide, ?_⟩
  rw [putN_new (by simp), putX_new (by simp) (by simp)]
  refine sq_i ?_
  walk_at "vx"
  refine ⟨n2, by decide +kernel, by decide, ?_⟩
  rw [putN_new (by simpa using a1), putX_new (by simp) (by simpa using a1)]
  refine sq_i ?_
  walk_at "vt"
  simp only [frzL_str]
  refine ⟨_, _, _, _, _, _, rfl, noOwnL_str ks, noOwn_lI es, noOwn_lI ss, _, _, rfl, rfl, ?_⟩
  rw [show D.obj true "Tree" ["kinds", "elders", "starts"] [.lst true (ks.map .str), .lst true (es.map .int), .lst true (ss.map .int)] = treeD true ks es ss from rfl]
  refine ⟨Or.inl (alo_tree ks es ss), by decide +kernel, by decide, ?_⟩
  rw [putN_new (by simpa using ⟨a2, b2⟩), putX_new (by simp) (by simpa using ⟨a2, b2⟩)]
  refine sq_i ?_
  walk_at "vx"
  refine ⟨n4, by decide +kernel, by decide, ?_⟩
  rw [putN_new (by simpa using ⟨a3, b3, c3⟩), putX_new (by simp) (by simpa using ⟨a3, b3, c3⟩)]
  refine sq_i ?_
  walk_at "vx"
  rw [putN_new (f := "outs") (by simpa using ⟨a4, b4, c4, d4⟩), putX_new (f := "outs") (by simp) (by simpa using ⟨a4, b4, c4, d4⟩)]
  simp only [List.cons_append, List.nil_append]
  rw [putN_new (f := "ways") (by simpa using ⟨a5, b5, c5, d5, e5⟩), putX_new (f := "ways") (by simp) (by simpa using ⟨a5, b5, c5, d5, e5⟩)]
  exact ⟨n5, by decide +kernel, by decide, n6, by decide +kernel, by decide, _, rfl, q⟩
-- needs: m_tree Tree_init Chart_init
/-! ### charts as data -/
def chartD (m : Bool) (bs nm : List D) (t : D) (il ol wl : List D) : D := .obj m "Chart" chN [.lst m bs, .lst m nm, t, .lst m il, .lst m ol, .lst m wl]
theorem bq_ch : (("names" : Str) == "boxes") = false ∧ (("tree" : Str) == "boxes") = false ∧ (("ins" : Str) == "boxes") = false ∧ (("outs" : Str) == "boxes") = false ∧ (("ways" : Str) == "boxes") = false ∧
  (("tree" : Str) == "names") = false ∧ (("ins" : Str) == "names") = false ∧ (("outs" : Str) == "names") = false ∧ (("ways" : Str) == "names") = false ∧
  (("ins" : Str) == "tree") = false ∧ (("outs" : Str) == "tree") = false ∧ (("ways" : Str) == "tree") = false ∧ (("outs" : Str) == "ins") = false ∧ (("ways" : Str) == "ins") = false ∧ (("ways" : Str) == "outs") = false := by decide +kernel
section
variable (m : Bool) (bs nm : List D) (t : D) (il ol wl : List D) (Q : D → Prop)
theorem cfld_boxes : dFld "boxes" (chartD m bs nm t il ol wl) Q = Q (.lst m bs) := by
  unfold chartD dFld chN
  simp only [List.zip_cons_cons, List.lookup_cons, beq_self_eq_true, Option.some.injEq, exists_eq_left']
theorem cfld_names : dFld "names" (chartD m bs nm t il ol wl) Q = Q (.lst m nm) := by
  obtain ⟨h1, h2, h3, h4, h5, h6, h7, h8, h9, h10, h11, h12, h13, h14, h15⟩ := bq_ch
  unfold chartD dFld chN
  simp only [List.zip_cons_cons, List.lookup_cons, h1, beq_self_eq_true, Option.some.injEq, exists_eq_left']
theorem cfld_tree : dFld "tree" (chartD m bs nm t il ol wl) Q = Q t := by
  obtain ⟨h1, h2, h3, h4, h5, h6, h7, h8, h9, h10, h11, h12, h13, h14, h15⟩ := bq_ch
  unfold chartD dFld chN
  simp only [List.zip_cons_cons, List.lookup_cons, h2, h6, beq_self_eq_true, Option.some.injEq, exists_eq_left']
theorem cfld_ins : dFld "ins" (chartD m bs nm t il ol wl) Q = Q (.lst m il) := by
  obtain ⟨h1, h2, h3, h4, h5, h6, h7, h8, h9, h10, h11, h12, h13, h14, h15⟩ := bq_ch
  unfold chartD dFld chN
  simp only [List.zip_cons_cons, List.lookup_cons, h3, h7, h10, beq_self_eq_true, Option.some.injEq, exists_eq_left']
theorem cfld_outs : dFld "outs" (chartD m bs nm t il ol wl) Q = Q (.lst m ol) := by
  obtain ⟨h1, h2, h3, h4, h5, h6, h7, h8, h9, h10, h11, h12, h13, h14, h15⟩ := bq_ch
  unfold chartD dFld chN
  simp only [List.zip_cons_cons, List.lookup_cons, h4, h8, h11, h13, beq_self_eq_true, Option.some.injEq, exists_eq_left']
theorem cfld_ways : dFld "ways" (chartD m bs nm t il ol wl) Q = Q (.lst m wl) := by
  obtain ⟨h1, h2, h3, h4, h5, h6, h7, h8, h9, h10, h11, h12, h13, h14, h15⟩ := bq_ch
  unfold chartD dFld chN
  simp only [List.zip_cons_cons, List.lookup_cons, h5, h9, h12, h14, h15, beq_self_eq_true, Option.some.injEq, exists_eq_left']
theorem frz_chart : frz (chartD m bs nm t il ol wl) = chartD false (frzL bs) (frzL nm) (frz t) (frzL il) (frzL ol) (frzL wl) := by
  unfold chartD
  simp only [frz, frzL]
end
local macro_rules | `(tactic| walk_at "vc") => `(tactic| repeat (first | simp only [cfld_boxes, cfld_names, cfld_tree, cfld_ins, cfld_outs, cfld_ways, frz_chart, fld_kinds, fld_elders, fld_starts, frz_tree, alo_tree, noOwn_tree] | walk_at "vx"))
/-- a way as far as its sign -/
def wayS (w : D) (s : Str) : Prop := noOwn w = true ∧ ∃ a rest, w = .tup (a :: .str s :: rest)
def signsM (ss : List Str) : List Str := ss.foldl (fun acc s => if s ∈ acc then acc else acc ++ [s]) []
theorem signsM_snoc (ss : List Str) (s : Str) : signsM (ss ++ [s]) = if s ∈ signsM ss then signsM ss else signsM ss ++ [s] := by
  unfold signsM
  rw [List.foldl_append]; rfl
theorem signsM_len : ∀ ss : List Str, (signsM ss).length ≤ ss.length := by
  intro ss
  have h : ∀ (ss acc : List Str), (ss.foldl (fun acc s => if s ∈ acc then acc else acc ++ [s]) acc).length ≤ acc.length + ss.length := by
    intro ss
    induction ss with
    | nil => intro acc; simp
    | cons s ss ih =>
      intro acc
      rw [List.foldl_cons]
      refine Nat.le_trans (ih _) ?_
      split <;> simp <;> omega
  have := h ss []
  simpa [signsM] using this
theorem any_strs (xs : List Str) (o : Str) : ((xs.map D.str).any fun d => deq d (.str o)) = decide (o ∈ xs) := by
  induction xs with
  | nil => rfl
  | cons x xs ih =>
    rw [List.map_cons, List.any_cons, ih, deq_str]
    by_cases h : x = o
    · subst h; simp
    · rw [decide_eq_false h, Bool.false_or]
      simp only [List.mem_cons, show ¬ o = x from fun e => h e.symm, false_or]
theorem flat_strs (xs : List Str) : (xs.map D.str).all flatD = true := by
  rw [List.all_map, List.all_eq_true]
  exact fun _ _ => rfl
-- needs: m_ent m_openM m_snoc m_chart
/-! ### the parts of a chart -/
def dsD (ds : List Deed) : D := .tup (ds.map dD)
inductive Ask where
  | op (b : Bool) (k : Int)
  | nu (m : Mrk) (a b : Int × Int)
def askD2 : Ask → D
  | .op b k => .tup [.str (if b then "open" else "shut"), .int k]
  | .nu m a b => .tup [.str (mS m), tD a.1 a.2, tD b.1 b.2]
structure Way where
  src : Int
  sign : Str
  asks : List Ask
  deeds : List Deed
  tgt : Int
  mode : Str
def wayD (w : Way) : D := .tup [.int w.src, .str w.sign, .tup (w.asks.map askD2), dsD w.deeds, .int w.tgt, .str w.mode]
def okTm (boxes : Int) (t : Int × Int) : Prop := t.1 = -1 ∨ 0 ≤ t.1 ∧ t.1 < boxes
def okAsk (many boxes : Int) : Ask → Prop
  | .op _ k => 0 ≤ k ∧ k < many
  | .nu _ a b => okTm boxes a ∧ okTm boxes b
def okWay (many boxes : Int) (w : Way) : Prop :=
  (0 ≤ w.src ∧ w.src < many) ∧ PyData.strOk w.sign = true ∧ (w.asks.length ≤ 2 ∧ ∀ a ∈ w.asks, okAsk many boxes a) ∧ (w.deeds.length ≤ 2 ∧ ∀ d ∈ w.deeds, okDe boxes d) ∧ ((w.tgt = -1 ∧ w.mode = "new") ∨ (0 ≤ w.tgt ∧ w.tgt < many ∧ okMode w.mode))
structure Parts where
  bx : List Int
  es : List Int
  ks : List Str
  ss : List Int
  ins : List (List Deed)
  outs : List (List Deed)
  ways : List Way
def bxN (k : Nat) : Str := ("b" : Str) ++ Str.ofString (toString (k : Int))
def bxD (bx : List Int) : List D := (List.range bx.length).map fun k => .tup [.str (bxN k), .int (bx.getD k 0)]
def partsD (m : Bool) (p : Parts) : D := .tup [.lst m (bxD p.bx), lI m p.es, .lst m (p.ks.map .str), lI m p.ss, .lst m (p.ins.map dsD), .lst m (p.outs.map dsD), .lst m (p.ways.map wayD)]
def okDeeds (boxes : Int) (n : Nat) (l : List (List Deed)) : Prop := l.length = n ∧ ∀ ds ∈ l, ds.length ≤ 2 ∧ ∀ d ∈ ds, okDe boxes d
structure okParts (p : Parts) : Prop where
  tree : okTree p.es
  kk : okKs p.es p.ks
  hs : okCh p.es p.ks p.ss
  bl : p.bx.length ≤ 3
  ins : okDeeds p.bx.length p.es.length p.ins
  outs : okDeeds p.bx.length p.es.length p.outs
  wl : p.ways.length ≤ 8
  ws : ∀ w ∈ p.ways, okWay p.es.length p.bx.length w
theorem noOwn_dsD (ds : List Deed) : noOwn (dsD ds) = true := noOwnL_map dD noOwn_dD ds
theorem noOwn_ask (a : Ask) : noOwn (askD2 a) = true := by cases a <;> rfl
theorem noOwn_way (w : Way) : noOwn (wayD w) = true := by
  unfold wayD
  simp only [noOwn, noOwnL, noOwn_dsD, noOwnL_map askD2 noOwn_ask, Bool.and_true, Bool.true_and]
theorem alo_dD (d : Deed) : alo (dD d) = true := by cases d <;> rfl
theorem alo_dsD (ds : List Deed) : alo (dsD ds) = true := aloL_map dD alo_dD ds
theorem alo_ask (a : Ask) : alo (askD2 a) = true := by cases a <;> rfl
theorem alo_way (w : Way) : alo (wayD w) = true := by
  unfold wayD
  simp only [alo, aloL, alo_dsD, aloL_map askD2 alo_ask, Bool.and_true, Bool.true_and]
theorem noOwnL_dsD (l : List (List Deed)) : noOwnL (l.map dsD) = true := noOwnL_map dsD noOwn_dsD l
theorem noOwnL_way (l : List Way) : noOwnL (l.map wayD) = true := noOwnL_map wayD noOwn_way l
theorem aloL_dsD (l : List (List Deed)) : aloL (l.map dsD) = true := aloL_map dsD alo_dsD l
theorem aloL_way (l : List Way) : aloL (l.map wayD) = true := aloL_map wayD alo_way l
theorem frzL_dsD (l : List (List Deed)) : frzL (l.map dsD) = l.map dsD := frzL_id _ (noOwnL_dsD l)
theorem frzL_way (l : List Way) : frzL (l.map wayD) = l.map wayD := frzL_id _ (noOwnL_way l)
theorem frz_dsD (ds : List Deed) : frz (dsD ds) = dsD ds := frz_id _ (noOwn_dsD ds)
theorem noOwnL_bxD (bx : List Int) : noOwnL (bxD bx) = true := noOwnL_map _ (fun _ => rfl) _
theorem aloL_bxD (bx : List Int) : aloL (bxD bx) = true := aloL_map _ (fun _ => rfl) _
theorem frzL_bxD (bx : List Int) : frzL (bxD bx) = bxD bx := frzL_id _ (noOwnL_bxD bx)
theorem bxN_ok (k : Nat) : PyData.strOk (bxN k) = true := strOk_app (by decide +kernel) (strOk_ofString _)
theorem alo_parts (p : Parts) : alo (partsD true p) = true := by
  unfold partsD
  simp only [alo, aloL, aloL_lI, aloL_bxD, aloL_dsD, aloL_way, aloL_str, Bool.and_true]
theorem noOwn_parts (p : Parts) : noOwn (partsD false p) = true := by
  unfold partsD
  simp only [noOwn, noOwnL, noOwn_lI, noOwnL_bxD, noOwnL_dsD, noOwnL_way, noOwnL_str, Bool.and_true, Bool.not_false]
theorem frz_parts (m : Bool) (p : Parts) : frz (partsD m p) = partsD false p := by
  unfold partsD
  simp only [frz, frzL, frzL_lI, frzL_bxD, frzL_dsD, frzL_way, frzL_str]
/-- the chart of the parts -/
def mNames (n : Nat) : List D := (List.range n).map fun k : Nat => .str (("m" : Str) ++ Str.ofString (toString (k : Int)))
def pchD (m : Bool) (p : Parts) : D := chartD m (bxD p.bx) (mNames p.es.length) (treeD m p.ks p.es p.ss) (p.ins.map dsD) (p.outs.map dsD) (p.ways.map wayD)
theorem noOwnL_mN (n : Nat) : noOwnL (mNames n) = true := noOwnL_map _ (fun _ => rfl) _
theorem aloL_mN (n : Nat) : aloL (mNames n) = true := aloL_map _ (fun _ => rfl) _
theorem frzL_mN (n : Nat) : frzL (mNames n) = mNames n := frzL_id _ (noOwnL_mN n)
theorem frz_pch (m : Bool) (p : Parts) : frz (pchD m p) = pchD false p := by
  unfold pchD
  rw [frz_chart, frz_tree, frzL_bxD, frzL_mN, frzL_dsD, frzL_dsD, frzL_way]
theorem alo_pch (p : Parts) : alo (pchD true p) = true := by
  show (true && aloL [.lst true (bxD p.bx), .lst true (mNames p.es.length), treeD true p.ks p.es p.ss, .lst true (p.ins.map dsD), .lst true (p.outs.map dsD), .lst true (p.ways.map wayD)]) = true
  simp only [aloL, alo, aloL_bxD, aloL_mN, aloL_dsD, aloL_way, alo_tree, Bool.and_true]
theorem frz_lIp (m : Bool) (xs : List Int) : frz (lI m xs) = lI false xs := by simp only [frz, frzL_lI]
/-! ### deeds by the cells -/
def deedR (ns : List Int) (c boxes : Int) : Deed :=
  if c % 4 = 1 then .call (nameR ns (c / 4 % 4)) else if c % 4 = 2 ∨ boxes = 0 then .say (nameR ns (c / 4 % 4)) (c / 16 % (boxes + 1) - 1, numR (c / 16 / 4))
  else .put (c / 4 % boxes) (c / 16 % (boxes + 1) - 1, numR (c / 16 / 4))
def deedsR (ns : List Int) (at_ boxes : Int) : List Deed := (List.range (cellR ns at_ % 3).toNat).map fun k : Nat => deedR ns (cellR ns (at_ + 1 + (k : Int))) boxes
theorem okTm_mod {boxes x y : Int} (h : 0 ≤ boxes) : okTm boxes (x % (boxes + 1) - 1, y) := by
  have h1 := Int.emod_nonneg x (show boxes + 1 ≠ 0 by omega)
  have h2 := Int.emod_lt_of_pos x (show (0 : Int) < boxes + 1 by omega)
  show x % (boxes + 1) - 1 = -1 ∨ 0 ≤ x % (boxes + 1) - 1 ∧ x % (boxes + 1) - 1 < boxes
  omega
theorem deedR_ok {ns : List Int} {c boxes : Int} (h : 0 ≤ boxes) : okDe boxes (deedR ns c boxes) := by
  unfold deedR
  split
  · exact nameR_ok _ _
  · split
    · exact ⟨nameR_ok _ _, okTm_mod h⟩
    · rename_i h1 h2
      have hm : 0 < boxes := by omega
      exact ⟨Int.emod_nonneg _ (by omega), Int.emod_lt_of_pos _ hm, okTm_mod h⟩
theorem deedsR_ok {ns : List Int} {a boxes : Int} (h : 0 ≤ boxes) : (deedsR ns a boxes).length ≤ 2 ∧ ∀ d ∈ deedsR ns a boxes, okDe boxes d := by
  unfold deedsR
  refine ⟨by rw [List.length_map, List.length_range]; omega, fun d m => ?_⟩
  obtain ⟨k, _, rfl⟩ := List.mem_map.mp m
  exact deedR_ok h
/-! ### names -/
def wordsL : List Str := ["all", "and", "box", "call", "do", "far", "if", "in", "leaf", "near", "on", "one", "open", "out", "put", "say", "shut", "then", "to"]
def letL : Str := "abcdefghijklmnopqrstuvwxyz"
def figL : Str := "0123456789"
def sgn (c : Nat) : Str := ⟨#[c]⟩
def isNameM (t : Str) : Bool := !decide (t = "") && (decide (t.length ≤ 12) && (!decide (t ∈ wordsL) && (decide (t.cps.toList.getD 0 0 ∈ letL.cps.toList) && t.cps.toList.all fun c => decide (c ∈ letL.cps.toList) || decide (c ∈ figL.cps.toList))))
theorem m_strs (xs : List Str) (o : Str) : ((xs.map D.str).any fun d => deq d (.str o)) = decide (o ∈ xs) := by
  induction xs with
  | nil => rfl
  | cons x xs ih =>
    rw [List.map_cons, List.any_cons, ih, deq_str]
    by_cases h : x = o
    · subst h; simp
    · rw [decide_eq_false h, Bool.false_or]
      simp only [List.mem_cons, show ¬ o = x from fun e => h e.symm, false_or]
theorem m_flat (xs : List Str) : (xs.map D.str).all flatD = true := by
  rw [List.all_map, List.all_eq_true]
  exact fun _ _ => rfl
theorem str_nil {t : Str} : t = "" ↔ t.length = 0 := by
  constructor
  · rintro rfl; rfl
  · intro h
    obtain ⟨a⟩ := t
    have h : a.size = 0 := h
    rw [Array.size_eq_zero_iff] at h
    subst h; rfl
theorem len_cps (t : Str) : t.cps.toList.length = t.length := Array.length_toList
theorem mem_let (c : Nat) : c ∈ letL.cps.toList ↔ 97 ≤ c ∧ c ≤ 122 := by
  have : letL.cps.toList = (List.range 26).map (97 + ·) := by decide +kernel
  rw [this, List.mem_map]
  constructor
  · rintro ⟨k, m, rfl⟩; have := List.mem_range.mp m; omega
  · rintro ⟨h1, h2⟩; exact ⟨c - 97, List.mem_range.mpr (by omega), by omega⟩
theorem mem_fig (c : Nat) : c ∈ figL.cps.toList ↔ 48 ≤ c ∧ c ≤ 57 := by
  have : figL.cps.toList = (List.range 10).map (48 + ·) := by decide +kernel
  rw [this, List.mem_map]
  constructor
  · rintro ⟨k, m, rfl⟩; have := List.mem_range.mp m; omega
  · rintro ⟨h1, h2⟩; exact ⟨c - 48, List.mem_range.mpr (by omega), by omega⟩
-- needs: m_openM
def modeM (c : Int) : Str := (["new", "near", "far"] : List Str).getD c.toNat ""
theorem modeM_ok {c : Int} (h0 : 0 ≤ c) (h1 : c < 3) : okMode (modeM c) := by
  have : c = 0 ∨ c = 1 ∨ c = 2 := by omega
  rcases this with rfl | rfl | rfl
  · exact .inl rfl
  · exact .inr (.inl rfl)
  · exact .inr (.inr rfl)
theorem ix_mode {c : Int} {Q : D → Prop} (h0 : 0 ≤ c) (h1 : c < 3) (q : Q (.str (modeM c))) : ∃ d, atI ([.str "new", .str "near", .str "far"] : List D) c = some d ∧ Q d :=
  ix_map (f := D.str) (xs := ["new", "near", "far"]) "" h0 h1 q
-- needs: m_parts m_name m_isname m_mode
/-! ### charts drawn by two cells each (k20, k22, k24, k62) -/
def okNm (s : Str) : Prop := PyData.strOk s = true ∧ s.length ≤ 40
def okNb (x : Int) : Prop := -(10 ^ 30) < x ∧ x < 10 ^ 30
def okTmB (nb : Int) (t : Int × Int) : Prop := (t.1 = -1 ∨ 0 ≤ t.1 ∧ t.1 < nb) ∧ okNb t.2
def okDeB (nb : Int) : Deed → Prop
  | .put b t => (0 ≤ b ∧ b < nb) ∧ okTmB nb t
  | .call n => okNm n
  | .say n t => okNm n ∧ okTmB nb t
def okAskB (many nb : Int) : Ask → Prop
  | .op _ k => 0 ≤ k ∧ k < many
  | .nu _ a b => okTmB nb a ∧ okTmB nb b
structure okWayB (many nb : Int) (w : Way) : Prop where
  src : 0 ≤ w.src ∧ w.src < many
  sign : okNm w.sign
  asks : w.asks.length ≤ 41 ∧ ∀ a ∈ w.asks, okAskB many nb a
  deeds : w.deeds.length ≤ 41 ∧ ∀ d ∈ w.deeds, okDeB nb d
  tgt : (w.tgt = -1 ∧ w.mode = "new") ∨ (0 ≤ w.tgt ∧ w.tgt < many ∧ okMode w.mode)
structure PB where
  bx : List (Str × Int)
  nm : List Str
  ks : List Str
  es : List Int
  ss : List Int
  ins : List (List Deed)
  outs : List (List Deed)
  ways : List Way
def bxP (b : Str × Int) : D := .tup [.str b.1, .int b.2]
def pbL (P : PB) : List D := [.lst false (P.bx.map bxP), .lst false (P.nm.map .str), .lst false (P.ks.map .str), lI false P.es, lI false P.ss, .lst false (P.ins.map dsD), .lst false (P.outs.map dsD), .lst false (P.ways.map wayD)]
def okDss (nb : Int) (n : Nat) (l : List (List Deed)) : Prop := l.length = n ∧ ∀ ds ∈ l, ds.length ≤ 41 ∧ ∀ d ∈ ds, okDeB nb d
structure okPB (P : PB) : Prop where
  tree : okTree P.es
  many : P.es.length ≤ 41
  kk : okKs P.es P.ks
  hs : okCh P.es P.ks P.ss
  bl : P.bx.length ≤ 3
  bx : ∀ b ∈ P.bx, okNm b.1 ∧ okNb b.2
  nl : P.nm.length = P.es.length
  nm : ∀ s ∈ P.nm, okNm s
  ins : okDss P.bx.length P.es.length P.ins
  outs : okDss P.bx.length P.es.length P.outs
  wl : P.ways.length ≤ 41
  ways : ∀ w ∈ P.ways, okWayB P.es.length P.bx.length w
theorem noOwn_bxP (b : Str × Int) : noOwn (bxP b) = true := rfl
theorem noOwnL_pbL (P : PB) : noOwnL (pbL P) = true := by
  unfold pbL
  simp only [noOwn, noOwnL, noOwn_lI, noOwnL_map bxP noOwn_bxP, noOwnL_dsD, noOwnL_way, noOwnL_str, Bool.and_true, Bool.not_false]
theorem frzL_bxP (l : List (Str × Int)) : frzL (l.map bxP) = l.map bxP := frzL_id _ (noOwnL_map bxP noOwn_bxP l)
theorem frzL_pbL (P : PB) : frzL (pbL P) = pbL P := frzL_id _ (noOwnL_pbL P)
/-- the cells, two by two -/
def itD (p : Int × Int) : D := .tup [.int p.1, .int p.2]
theorem noOwn_it (p : Int × Int) : noOwn (itD p) = true := rfl
theorem frzL_it (l : List (Int × Int)) : frzL (l.map itD) = l.map itD := frzL_id _ (noOwnL_map itD noOwn_it l)
def moodQ (p : Int × Int) : Bool := decide (p.1 % 8 < 3)
def cntN (items : List (Int × Int)) : Nat := (items.filter moodQ).length
theorem cntN_snoc (items : List (Int × Int)) (p : Int × Int) : cntN (items ++ [p]) = cntN items + if moodQ p = true then 1 else 0 := by
  unfold cntN
  rw [List.filter_append, List.length_append]
  by_cases h : moodQ p = true
  · rw [if_pos h, List.filter_cons_of_pos h]; rfl
  · rw [if_neg h, List.filter_cons_of_neg h]; rfl
theorem cntN_le (items : List (Int × Int)) : cntN items ≤ items.length := List.length_filter_le _ _
theorem cntN_pre (pre post : List (Int × Int)) : cntN pre ≤ cntN (pre ++ post) := by
  unfold cntN; rw [List.filter_append, List.length_append]; omega
def numB (c : Int) : Int := if c % 2 = 1 then 0 - c / 2 % 10 ^ 30 else c / 2 % 10 ^ 30
theorem numB_ok (c : Int) : okNb (numB c) := by
  have h0 := Int.emod_nonneg (c / 2) (show (10 ^ 30 : Int) ≠ 0 by decide)
  have h1 := Int.emod_lt_of_pos (c / 2) (show (0 : Int) < 10 ^ 30 by decide)
  unfold numB okNb
  split <;> omega
theorem okTmB_mod {nb x y : Int} (h : 0 ≤ nb) : okTmB nb (x % (nb + 1) - 1, numB y) := ⟨okTm_mod (y := y) h, numB_ok y⟩
def sp_L_cell_at : SpD := fun ds Q => ∃ m ns k, ds = [lI m ns, .int k] ∧ 0 ≤ k ∧ Q (.int (ns.getD k.toNat 0))
theorem len_L_cell_at : ∀ ds Q, sp_L_cell_at ds Q → ds.length = 2 := by rintro _ _ ⟨_, _, _, rfl, _⟩; rfl
theorem d_L_cell_at : ∀ ds Q, sp_L_cell_at ds Q → w_L_cell_at { nx := fun _ => Q .non, rt := fun d _ => Q d } (env0 2 ds) := by
  rintro _ Q ⟨m, ns, k, rfl, h0, q⟩
  unfold w_L_cell_at
  refine sq_i ?_
  walk_at "vx"
  refine ⟨fun h => ix_lI h0 h ⟨rfl, q⟩, fun h => ?_⟩
  rwa [getD_ge (by omega)] at q
-- needs: L_cell_at L_chain
theorem u_L_cell_at {m : Bool} {ns : List Int} {k : Int} {Q : D → Prop} (h : 0 ≤ k) (q : Q (.int (ns.getD k.toNat 0))) : sp_L_cell_at [lI m ns, .int k] Q := ⟨m, ns, k, rfl, h, q⟩
theorem u_L_chain {m : Bool} {es : List Int} {k : Int} {Q : D → Prop} (ok : okE es) (hm : es.length ≤ 150) (h0 : 0 ≤ k) (h1 : k < es.length) (q : Q (lI true (aboveM es k))) : sp_L_chain [lI m es, .int k] Q := ⟨m, es, k, rfl, ok, hm, h0, h1, q⟩
-- needs: m_by u_cc
def sp_L_elders_by_2 : SpD := fun ds Q => ∃ (m : Bool) (items : List (Int × Int)), ds = [.lst m (items.map itD)] ∧ m = false ∧ items.length ≤ 100 ∧ ∀ es, okTree es → es.length = 1 + cntN items → Q (lI true es)
theorem len_L_elders_by_2 : ∀ ds Q, sp_L_elders_by_2 ds Q → ds.length = 1 := by rintro _ _ ⟨_, _, rfl, _⟩; rfl
theorem u_L_elders_by_2 {items : List (Int × Int)} {Q : D → Prop} (hl : items.length ≤ 100) (q : ∀ es, okTree es → es.length = 1 + cntN items → Q (lI true es)) : sp_L_elders_by_2 [.lst false (items.map itD)] Q := ⟨_, items, rfl, rfl, hl, q⟩
theorem d_L_elders_by_2 : ∀ ds Q, sp_L_elders_by_2 ds Q → w_L_elders_by_2 sp_L_chain { nx := fun _ => Q .non, rt := fun d _ => Q d } (env0 5 ds) := by
  rintro _ Q ⟨_, items, rfl, rfl, hl, q⟩
  unfold w_L_elders_by_2
  refine sq_i ?_
  walk_at "vx"
  refine sq_i ?_
  refine for_pre itD (xs := items) (fun Q q => by walk_at "vx"; rw [frzL_it]; exact ⟨noOwnL_map itD noOwn_it _, q⟩)
    (fun pre env => ∃ es o2 o3 o4, env = [some (.lst false (items.map itD)), some (lI true es), o2, o3, o4] ∧ okTree es ∧ es.length = 1 + cntN pre) ⟨[-1], _, _, _, rfl, okTree_start, rfl⟩ ?_ ?_
  · rintro pre it post _ e ⟨es, o2, o3, o4, rfl, ok, le⟩
    have ho := ok.ok
    have hpl : pre.length < items.length := by rw [e]; simp
    have hc := cntN_le pre
    have hm := ok.most
    rw [cntN_snoc]
    rw [show itD it = .tup [.int it.1, .int it.2] from rfl]
    have dq : moodQ it = decide (it.1 % 8 < 3) := rfl
    generalize moodQ it = b at dq ⊢
    walk_at "vx"
    refine ⟨fun h => ?_, fun h => ?_⟩
    · rw [decide_eq_true h] at dq
      subst dq
      rw [if_pos rfl]
      refine sq_i ?_
      walk_at "vx"
      refine sq_i ?_
      walk_at "vx"
      obtain ⟨k, ek⟩ : ∃ k : Nat, es.length = k + 1 := ⟨es.length - 1, by omega⟩
      have hk1 : (es.length : Int) - 1 = (k : Int) := by omega
      rw [hk1]
      refine u_L_chain ho hm (by omega) (by omega) ⟨.inl (by show (true && aloL _) = true; rw [aloL_lI]; rfl), ?_⟩
      walk_at "vx"
      have al := aboveM_len ho (k := (k : Int)) (by omega) (by omega)
      refine ⟨by omega, ?_⟩
      rw [show D.int (k : Int) :: (aboveM es k).map .int = ((k : Int) :: aboveM es k).map .int from rfl]
      have dk := ok.deep k (by omega)
      have us : upM es k = (k : Int) :: aboveM es k := upM_step ho (by omega) (by omega)
      refine sq_cut (fun env => ∃ rs : List Int, env = [some (.lst false (items.map itD)), some (lI true es), some (.tup [.int it.1, .int it.2]), some (.int k), some (lI true rs)] ∧ 0 < rs.length ∧ ∀ x ∈ rs, x ∈ (k : Int) :: aboveM es k ∧ (upM es x).length ≤ 12) ?_ ?_
      · walk_at "vx"
        refine ⟨fun h => ?_, fun h => ?_⟩
        · rw [cutD_from _ (by decide)]
          refine ⟨aboveM es k, rfl, by simp at h; omega, fun x m => ⟨List.mem_cons_of_mem _ m, ?_⟩⟩
          have he := ho.int (k := (k : Int)) (by omega) (by omega)
          have := upM_mem_len ho es.length (elD es k) (by omega) he.1 (by omega) x m
          exact Nat.le_trans this dk
        · refine ⟨_, rfl, by simp, fun x m => ⟨m, ?_⟩⟩
          simp at h
          rcases List.mem_cons.mp m with rfl | m
          · rw [us, List.length_cons]; omega
          · have he := ho.int (k := (k : Int)) (by omega) (by omega)
            have := upM_mem_len ho es.length (elD es k) (by omega) he.1 (by omega) x m
            exact Nat.le_trans this dk
      rintro _ ⟨rs, rfl, h0, hrs⟩
      walk_at "vx"
      have e0 := Int.emod_nonneg (it.1 / 8) (show ((rs.length : Nat) : Int) ≠ 0 by omega)
      have e1 := Int.emod_lt_of_pos (it.1 / 8) (show (0 : Int) < (rs.length : Nat) by omega)
      refine ⟨by omega, by omega, ix_lI e0 e1 ⟨rfl, ?_⟩⟩
      have mem : rs.getD (it.1 / 8 % (rs.length : Nat)).toNat 0 ∈ rs := by
        have : (it.1 / 8 % (rs.length : Nat)).toNat < rs.length := by omega
        rw [List.getD_eq_getElem?_getD, List.getElem?_eq_getElem this]
        exact List.getElem_mem this
      obtain ⟨h2, h3⟩ := hrs _ mem
      generalize rs.getD (it.1 / 8 % (rs.length : Nat)).toNat 0 = x at h2 h3 ⊢
      exact ⟨es ++ [x], _, _, _, by rw [lI_snoc], ok.grow (by omega) (by rw [hk1]; exact h2) h3, by simp; omega⟩
    · rw [decide_eq_false h] at dq
      subst dq
      exact ⟨es, _, _, _, rfl, ok, by rw [le]; rfl⟩
  · rintro _ ⟨es, o2, o3, o4, rfl, ok, le⟩
    walk_at "vx"
    exact q es ok le
-- needs: m_by
def sp_L_name_by : SpD := fun ds Q => ∃ (n : Int) (m : Bool) (used : List Str), ds = [.int n, .lst m (used.map .str)] ∧ 0 ≤ n ∧ n < 10 ^ 18 ∧ used.length ≤ 1000 ∧ ∀ s, okNm s → Q (.str s)
theorem len_L_name_by : ∀ ds Q, sp_L_name_by ds Q → ds.length = 2 := by rintro _ _ ⟨_, _, _, rfl, _⟩; rfl
theorem u_L_name_by {n : Int} {m : Bool} {used : List Str} {Q : D → Prop} (h0 : 0 ≤ n) (h1 : n < 10 ^ 18) (h2 : used.length ≤ 1000) (q : ∀ s, okNm s → Q (.str s)) : sp_L_name_by [.int n, .lst m (used.map .str)] Q := ⟨n, m, used, rfl, h0, h1, h2, q⟩
theorem lettersM_lenB : lettersM.length = 36 := by decide +kernel
theorem letM_len (k : Int) : (letM k).length = 1 := rfl
theorem d_L_name_by : ∀ ds Q, sp_L_name_by ds Q → w_L_name_by { nx := fun _ => Q .non, rt := fun d _ => Q d } (env0 7 ds) := by
  rintro _ Q ⟨n, m, used, rfl, h0, h1, h2, q⟩
  unfold w_L_name_by
  refine sq_i ?_
  walk_at "vx"
  refine sq_i ?_
  walk_at "vx"
  refine ⟨" ", rfl, by decide +kernel, by decide +kernel, ?_⟩
  generalize Txt.split _ _ = wds
  rw [show (Str.ofString "abcdefghijklmnopqrstuvwxyz0123456789") = lettersM from rfl]
  refine sq_i ?_
  refine for_rng1 (j := (used.length : Int) + 20) (fun Q q => by walk_at "vx"; exact q) (by omega) (by omega)
    (fun k env => ∃ o4 o5 o6, env = [some (.int n), some (.lst m (used.map .str)), some (.str lettersM), some (.lst true (wds.map .str)), o4, o5, o6]) ⟨_, _, _, rfl⟩ ?_ ?_
  · rintro k _ hk ⟨o4, o5, o6, rfl⟩
    refine sq_i ?_
    walk_at "vx"
    refine ix_str (by rw [lettersM_lenB]; decide) (by omega) (by rw [lettersM_lenB]; omega) ?_
    rw [show (Str.mk #[lettersM.cps.toList.getD ((n + (k : Int)) % 26).toNat 0]) = letM ((n + (k : Int)) % 26) from rfl]
    refine sq_i ?_
    walk_at "vx"
    refine sq_cut (fun env => ∃ s o6, okNm s ∧ env = [some (.int n), some (.lst m (used.map .str)), some (.str lettersM), some (.lst true (wds.map .str)), some (.int k), some (.str s), o6]) ?_ ?_
    · refine ⟨fun env => ∃ (s : Str) (r : Int) (j : Nat), env = [some (.int n), some (.lst m (used.map .str)), some (.str lettersM), some (.lst true (wds.map .str)), some (.int k), some (.str s), some (.int r)] ∧ s.length = j + 1 ∧ j ≤ 20 ∧ PyData.strOk s = true ∧ 0 ≤ r ∧ r < 36 ^ (20 - j), fun env => match env with | [_, _, _, _, _, _, some (.int r)] => r.toNat | _ => 0, ⟨_, _, 0, rfl, letM_len _, by omega, strOk_letM _, by omega, ?_⟩, ?_⟩
      · have : (36 : Int) ^ (20 - 0) = 36 ^ 20 := rfl
        omega
      · rintro _ ⟨s, r, j, rfl, hl, hj, hs, r0, r1⟩
        walk_at "vx"
        refine ⟨fun hp => ?_, fun hz => ⟨s, _, ⟨hs, by omega⟩, rfl⟩⟩
        have jl : j < 20 := by
          by_cases e : j = 20
          · subst e
            have r1 : r < 1 := r1
            omega
          · omega
        refine sq_i ?_
        walk_at "vx"
        refine ix_str (by rw [lettersM_lenB]; decide) (by omega) (by rw [lettersM_lenB]; omega) ?_
        rw [show (Str.mk #[lettersM.cps.toList.getD (r % 36).toNat 0]) = letM (r % 36) from rfl]
        refine ⟨by rw [letM_len]; omega, ?_⟩
        have hr : r / 36 < 36 ^ (20 - (j + 1)) := by
          have e : (36 : Int) ^ (20 - j) = 36 ^ (20 - (j + 1)) * 36 := by rw [show 20 - j = (20 - (j + 1)) + 1 by omega, Int.pow_succ]
          rw [e] at r1
          exact Int.ediv_lt_of_lt_mul (by decide) r1
        refine ⟨⟨s ++ letM (r % 36), r / 36, j + 1, rfl, by rw [len_app, letM_len, hl], by omega, strOk_app hs (strOk_letM _), by omega, hr⟩, ?_⟩
        show (r / 36).toNat < r.toNat
        omega
    · rintro _ ⟨s, o6, ok, rfl⟩
      walk_at "vx"
      rw [m_strs, m_flat, m_strs, m_flat]
      refine ⟨rfl, fun _ => ⟨rfl, fun _ => q s ok, fun _ => ⟨_, _, _, rfl⟩⟩, fun _ => ⟨_, _, _, rfl⟩⟩
  · rintro _ ⟨o4, o5, o6, rfl⟩
    walk_at "vx"
    exact q "" ⟨by decide +kernel, by decide +kernel⟩
-- needs: L_cell_at
theorem u_L_cell_at0 {m : Bool} {ns : List Int} {k : Int} {Q : D → Prop} (h : 0 ≤ k) (q : Q (.int (ns.getD k.toNat 0))) : sp_L_cell_at [lI m ns, .int k] Q := ⟨m, ns, k, rfl, h, q⟩
-- needs: m_by L_name_by u_cell
def sp_L_names_by : SpD := fun ds Q => ∃ (m : Bool) (ns : List Int) (many : Nat), ds = [lI m ns, .int many] ∧ many ≤ 100 ∧ ∀ nm : List Str, nm.length = many → (∀ s ∈ nm, okNm s) → Q (.lst true (nm.map .str))
theorem len_L_names_by : ∀ ds Q, sp_L_names_by ds Q → ds.length = 2 := by rintro _ _ ⟨_, _, _, rfl, _⟩; rfl
theorem u_L_names_by {m : Bool} {ns : List Int} {many : Nat} {Q : D → Prop} (h : many ≤ 100) (q : ∀ nm : List Str, nm.length = many → (∀ s ∈ nm, okNm s) → Q (.lst true (nm.map .str))) : sp_L_names_by [lI m ns, .int many] Q := ⟨m, ns, many, rfl, h, q⟩
theorem d_L_names_by : ∀ ds Q, sp_L_names_by ds Q → w_L_names_by sp_L_cell_at sp_L_name_by { nx := fun _ => Q .non, rt := fun d _ => Q d } (env0 6 ds) := by
  rintro _ Q ⟨m, ns, many, rfl, hm, q⟩
  unfold w_L_names_by
  refine sq_i ?_
  walk_at "vx"
  refine u_L_cell_at0 (by omega) ?_
  walk_at "wx"
  generalize ns.getD 0 0 = c0
  refine ⟨by decide, ?_⟩
  have b0 := Int.emod_nonneg c0 (show (26 * 36 ^ 10 : Int) ≠ 0 by decide)
  have b1 := Int.emod_lt_of_pos c0 (show (0 : Int) < 26 * 36 ^ 10 by decide)
  generalize (c0 % (26 * 36 ^ 10)) = base at b0 b1 ⊢
  refine sq_i ?_
  walk_at "vx"
  refine u_L_cell_at0 (by omega) ?_
  walk_at "wx"
  generalize ns.getD 1 0 = c1
  refine ix_map (f := D.int) (xs := [1, 26, 936, 33696, 1213056]) 0 (by omega) (show _ < (5 : Int) by omega) ⟨rfl, ?_⟩
  have step : 0 ≤ ([1, 26, 936, 33696, 1213056] : List Int).getD (c1 % 5).toNat 0 ∧ ([1, 26, 936, 33696, 1213056] : List Int).getD (c1 % 5).toNat 0 ≤ 1213056 := by
    rcases (show c1 % 5 = 0 ∨ c1 % 5 = 1 ∨ c1 % 5 = 2 ∨ c1 % 5 = 3 ∨ c1 % 5 = 4 by omega) with e | e | e | e | e <;> rw [e] <;> decide
  generalize ([1, 26, 936, 33696, 1213056] : List Int).getD (c1 % 5).toNat 0 = st at step ⊢
  refine sq_i ?_
  walk_at "vx"
  refine sq_i ?_
  refine for_rng1 (j := (many : Int)) (fun Q q => by walk_at "vx"; exact q) (by omega) (by omega)
    (fun k env => ∃ (nm : List Str) (o5 : Option D), env = [some (lI m ns), some (.int many), some (.int base), some (.int st), some (.lst true (nm.map .str)), o5] ∧ nm.length = k ∧ ∀ s ∈ nm, okNm s) ⟨[], _, rfl, rfl, fun s h => by cases h⟩ ?_ ?_
  · rintro k _ hk ⟨nm, o5, rfl, hl, hn⟩
    have p0 : 0 ≤ (k : Int) * st := Int.mul_nonneg (by omega) step.1
    have p1 : (k : Int) * st ≤ 100 * 1213056 := Int.mul_le_mul (by omega) step.2 step.1 (by decide)
    have e36 : (26 * 36 ^ 10 : Int) ≤ 10 ^ 17 := by decide
    walk_at "vx"
    rw [frzL_str]
    refine ⟨by omega, .inl ⟨by omega, by omega⟩, u_L_name_by (by omega) (by omega) (by omega) fun s hs => ⟨.inl rfl, nm ++ [s], _, by rw [List.map_append]; rfl, by rw [List.length_append, hl]; rfl, fun x hx => ?_⟩⟩
    rcases List.mem_append.mp hx with hx | hx
    · exact hn x hx
    · rw [List.mem_singleton.mp hx]; exact hs
  · rintro _ ⟨nm, o5, rfl, hl, hn⟩
    walk_at "vx"
    exact q nm (by omega) hn
-- needs: m_by
def sp_L_kinds_by : SpD := fun ds Q => ∃ (m m2 : Bool) (es cells : List Int), ds = [lI m es, lI m2 cells] ∧ es.length ≤ 150 ∧ es.length ≤ cells.length ∧ ∀ ks ss, okKs es ks → okCh es ks ss → Q (.lst true [.lst true (ks.map .str), lI true ss])
theorem len_L_kinds_by : ∀ ds Q, sp_L_kinds_by ds Q → ds.length = 2 := by rintro _ _ ⟨_, _, _, _, rfl, _⟩; rfl
theorem u_L_kinds_by {m m2 : Bool} {es cells : List Int} {Q : D → Prop} (h1 : es.length ≤ 150) (h2 : es.length ≤ cells.length) (q : ∀ ks ss, okKs es ks → okCh es ks ss → Q (.lst true [.lst true (ks.map .str), lI true ss])) : sp_L_kinds_by [lI m es, lI m2 cells] Q := ⟨m, m2, es, cells, rfl, h1, h2, q⟩
theorem d_L_kinds_by : ∀ ds Q, sp_L_kinds_by ds Q → w_L_kinds_by { nx := fun _ => Q .non, rt := fun d _ => Q d } (env0 8 ds) := by
  rintro _ Q ⟨m, m2, es, cells, rfl, h1, h2, q⟩
  unfold w_L_kinds_by
  refine sq_i ?_
  walk_at "vx"
  refine sq_i ?_
  walk_at "vx"
  refine sq_i ?_
  refine for_rng1 (j := (es.length : Int)) (fun Q q => by walk_at "vx"; exact q) (by omega) (by omega)
    (fun k env => ∃ ks ss o4 o5 o7, env = [some (lI m es), some (lI m2 cells), some (.lst true (ks.map .str)), some (lI true ss), o4, o5, none, o7] ∧ ks.length = k ∧ ss.length = k ∧
      ∀ j < k, ((innerM es j = [] ∧ kdM ks j = "leaf") ∨ (innerM es j ≠ [] ∧ (kdM ks j = "all" ∨ kdM ks j = "one"))) ∧ ((kdM ks j = "one" → elD ss j ∈ innerM es j) ∧ (kdM ks j ≠ "one" → elD ss j = -1))) ⟨[], [], _, _, _, rfl, rfl, rfl, fun j h => by omega⟩ ?_ ?_
  · rintro k _ hk ⟨ks, ss, o4, o5, o7, rfl, lk, ls, hj⟩
    have step : ∀ (x : Str) (s : Int) (p4 p5 p7 : Option D), ((innerM es k = [] ∧ x = "leaf") ∨ (innerM es k ≠ [] ∧ (x = "all" ∨ x = "one"))) → ((x = "one" → s ∈ innerM es k) ∧ (x ≠ "one" → s = -1)) →
        ∃ ks' ss' q4 q5 q7, ([some (lI m es), some (lI m2 cells), some (.lst true (ks.map .str ++ [.str x])), some (.lst true (ss.map .int ++ [.int s])), p4, p5, none, p7] : Env) = [some (lI m es), some (lI m2 cells), some (.lst true (ks'.map .str)), some (lI true ss'), q4, q5, none, q7] ∧ ks'.length = k + 1 ∧ ss'.length = k + 1 ∧
      ∀ j < k + 1, ((innerM es j = [] ∧ kdM ks' j = "leaf") ∨ (innerM es j ≠ [] ∧ (kdM ks' j = "all" ∨ kdM ks' j = "one"))) ∧ ((kdM ks' j = "one" → elD ss' j ∈ innerM es j) ∧ (kdM ks' j ≠ "one" → elD ss' j = -1)) := by
      intro x s p4 p5 p7 a1 a2
      refine ⟨ks ++ [x], ss ++ [s], _, _, _, by rw [lI_snoc, List.map_append]; rfl, by simp [lk], by simp [ls], fun j h => ?_⟩
      rw [kdM_snoc, elD_snoc, lk, ls]
      by_cases e : j = k
      · subst e; rw [if_pos rfl, if_pos rfl]; exact ⟨a1, a2⟩
      · rw [if_neg e, if_neg e]; exact hj j (by omega)
    refine sq_i ?_
    refine lc_rng1p (j := (es.length : Int)) (fun Q q => by walk_at "vx"; exact q) (by omega) (by omega) (fun a => decide (elD es a = (k : Int))) (fun a => .int a) (fun a ha => ?_) (fun a ha _ => by walk_at "vx") ?_
    · walk_at "vx"
      refine ix_el (by omega) ha ?_
      walk_at "wx"
    rw [show ((List.range ((es.length : Nat) : Int).toNat).filter fun a : Nat => decide (elD es a = (k : Int))).map (fun a : Nat => D.int a) = (innerM es k).map .int by unfold innerM; rw [List.map_map, Int.toNat_natCast]; rfl]
    have hin : ∀ x ∈ innerM es k, x ∈ innerM es k := fun x h => h
    generalize innerM es k = near at step hin ⊢
    show sq_ _ _ _ _
    refine sq_i ?_
    walk_at "vx"
    refine sq_cut (fun env => ∃ (x : Str) (s : Int), env = [some (lI m es), some (lI m2 cells), some (.lst true (ks.map .str ++ [.str x])), some (lI true ss), some (.int k), some (lI true near), none, some (.int s)] ∧ ((near = [] ∧ x = "leaf") ∨ (near ≠ [] ∧ (x = "all" ∨ x = "one"))) ∧ ((x = "one" → s ∈ near) ∧ (x ≠ "one" → s = -1))) ?_ ?_
    · walk_at "vx"
      have hd : deq (.lst true (near.map .int)) (.lst true []) = decide (near = []) := deq_lI true true near []
      have n1 : ("leaf" : Str) ≠ "one" := by decide +kernel
      have n2 : ("all" : Str) ≠ "one" := by decide +kernel
      rw [hd]
      refine ⟨⟨eqOk_lI true near 59, eqOk_lI true [] 59⟩, fun h => ⟨by omega, _, _, rfl, .inl ⟨of_decide_eq_true h, rfl⟩, fun z => absurd z n1, fun _ => rfl⟩, fun h => ?_⟩
      have hne := of_decide_eq_false h
      have hp : 0 < near.length := List.length_pos_iff.mpr hne
      refine ix_lI (by omega) (by omega) ?_
      walk_at "wx"
      refine ⟨fun _ => ⟨by omega, _, _, rfl, .inr ⟨hne, .inl rfl⟩, fun z => absurd z n2, fun _ => rfl⟩, fun _ => ?_⟩
      refine sq_i ?_
      walk_at "vx"
      refine ⟨by omega, ?_⟩
      refine ix_lI (by omega) (by omega) ?_
      walk_at "wx"
      have e0 := Int.emod_nonneg (cells.getD (k : Int).toNat 0 / 2) (show ((near.length : Nat) : Int) ≠ 0 by omega)
      have e1 := Int.emod_lt_of_pos (cells.getD (k : Int).toNat 0 / 2) (show (0 : Int) < (near.length : Nat) by omega)
      have mm : near.getD (cells.getD (k : Int).toNat 0 / 2 % (near.length : Nat)).toNat 0 ∈ near := getD_mem (by omega)
      exact ⟨by omega, ix_lI e0 e1 ⟨rfl, _, _, rfl, .inr ⟨hne, .inr rfl⟩, fun _ => mm, fun z => absurd rfl z⟩⟩
    · rintro _ ⟨x, s, rfl, a1, a2⟩
      walk_at "vx"
      exact ⟨by omega, step x s _ _ _ a1 a2⟩
  · rintro _ ⟨ks, ss, o4, o5, o7, rfl, lk, ls, hj⟩
    walk_at "vx"
    exact q ks ss ⟨by omega, fun j h => (hj j (by omega)).1⟩ ⟨by omega, fun j h => (hj j (by omega)).2⟩
-- needs: m_by
def sp_L_number_by : SpD := fun ds Q => ∃ c, ds = [.int c] ∧ Q (.int (numB c))
theorem len_L_number_by : ∀ ds Q, sp_L_number_by ds Q → ds.length = 1 := by rintro _ _ ⟨_, rfl, _⟩; rfl
theorem u_L_number_by {c : Int} {Q : D → Prop} (q : Q (.int (numB c))) : sp_L_number_by [.int c] Q := ⟨c, rfl, q⟩
theorem d_L_number_by : ∀ ds Q, sp_L_number_by ds Q → w_L_number_by { nx := fun _ => Q .non, rt := fun d _ => Q d } (env0 2 ds) := by
  rintro _ Q ⟨c, rfl, q⟩
  unfold w_L_number_by
  unfold numB at q
  refine sq_i ?_
  walk_at "vx"
  refine ⟨by decide, ?_⟩
  refine sq_i ?_
  walk_at "vx"
  exact ⟨fun h => by rwa [if_pos h] at q, fun h => by rwa [if_neg h] at q⟩
-- needs: m_by L_number_by
def sp_L_deed_by : SpD := fun ds Q => ∃ (it : Int × Int) (nb : Int) (m : Bool) (nm : List Str), ds = [itD it, .int nb, .lst m (nm.map .str)] ∧ 0 ≤ nb ∧ nb ≤ 3 ∧ 0 < nm.length ∧ nm.length ≤ 1000 ∧ (∀ s ∈ nm, okNm s) ∧ ∀ d, okDeB nb d → Q (dD d)
theorem len_L_deed_by : ∀ ds Q, sp_L_deed_by ds Q → ds.length = 3 := by rintro _ _ ⟨_, _, _, _, rfl, _⟩; rfl
theorem u_L_deed_by {it : Int × Int} {nb : Int} {m : Bool} {nm : List Str} {Q : D → Prop} (h0 : 0 ≤ nb) (h1 : nb ≤ 3) (h2 : 0 < nm.length) (h3 : nm.length ≤ 1000) (h4 : ∀ s ∈ nm, okNm s) (q : ∀ d, okDeB nb d → Q (dD d)) : sp_L_deed_by [itD it, .int nb, .lst m (nm.map .str)] Q := ⟨it, nb, m, nm, rfl, h0, h1, h2, h3, h4, q⟩
theorem ix_nm {nm : List Str} {x : Int} {Q : D → Prop} (h : 0 < nm.length) (q : ∀ s ∈ nm, Q (.str s)) : ∃ d, atI (nm.map D.str) (x % (nm.length : Nat)) = some d ∧ Q d := by
  have e0 := Int.emod_nonneg x (show ((nm.length : Nat) : Int) ≠ 0 by omega)
  have e1 := Int.emod_lt_of_pos x (show (0 : Int) < (nm.length : Nat) by omega)
  exact ix_map (f := D.str) "" e0 e1 (q _ (getD_mem (by omega)))
theorem d_L_deed_by : ∀ ds Q, sp_L_deed_by ds Q → w_L_deed_by sp_L_number_by { nx := fun _ => Q .non, rt := fun d _ => Q d } (env0 6 ds) := by
  rintro _ Q ⟨it, nb, m, nm, rfl, h0, h1, h2, h3, h4, q⟩
  unfold w_L_deed_by itD
  refine sq_i ?_
  walk_at "vx"
  refine sq_i ?_
  walk_at "vx"
  refine ⟨by omega, ix_nm h2 fun s hs => ⟨rfl, ?_⟩⟩
  have hs := h4 s hs
  refine sq_i ?_
  walk_at "vx"
  refine ⟨by omega, u_L_number_by ?_⟩
  have ht := okTmB_mod (nb := nb) (x := it.1 / 24) (y := it.2 / 3) h0
  generalize numB (it.2 / 3) = w at ht ⊢
  generalize it.1 / 24 % (nb + 1) - 1 = b at ht ⊢
  refine sq_i ?_
  walk_at "vx"
  refine ⟨fun _ => q (.call s) hs, fun _ => ?_⟩
  refine sq_i ?_
  walk_at "vx"
  have say := q (.say s (b, w)) ⟨hs, ht⟩
  refine ⟨fun _ => ⟨fun hn => ⟨hn, q (.put (it.1 / 24 / 4 % nb) (b, w)) ⟨⟨Int.emod_nonneg _ (by omega), Int.emod_lt_of_pos _ hn⟩, ht⟩⟩, fun _ => say⟩, fun _ => say⟩
-- needs: m_by L_deed_by
def sp_L_way_by : SpD := fun ds Q => ∃ (it : Int × Int) (src many nb : Int) (m : Bool) (nm : List Str), ds = [itD it, .int src, .int many, .lst m (nm.map .str)] ∧ 0 ≤ src ∧ src < many ∧ 0 < nm.length ∧ nm.length ≤ 1000 ∧ (∀ s ∈ nm, okNm s) ∧ ∀ w : Way, w.src = src → w.asks = [] → w.deeds = [] → okWayB many nb w → Q (wayD w)
theorem len_L_way_by : ∀ ds Q, sp_L_way_by ds Q → ds.length = 4 := by rintro _ _ ⟨_, _, _, _, _, _, rfl, _⟩; rfl
theorem u_L_way_by {it : Int × Int} {src many nb : Int} {m : Bool} {nm : List Str} {Q : D → Prop} (h0 : 0 ≤ src) (h1 : src < many) (h2 : 0 < nm.length) (h3 : nm.length ≤ 1000) (h4 : ∀ s ∈ nm, okNm s) (q : ∀ w : Way, w.src = src → w.asks = [] → w.deeds = [] → okWayB many nb w → Q (wayD w)) : sp_L_way_by [itD it, .int src, .int many, .lst m (nm.map .str)] Q := ⟨it, src, many, nb, m, nm, rfl, h0, h1, h2, h3, h4, q⟩
theorem d_L_way_by : ∀ ds Q, sp_L_way_by ds Q → w_L_way_by { nx := fun _ => Q .non, rt := fun d _ => Q d } (env0 6 ds) := by
  rintro _ Q ⟨it, src, many, nb, m, nm, rfl, h0, h1, h2, h3, h4, q⟩
  unfold w_L_way_by itD
  have e0 := Int.emod_nonneg it.2 (show many + 1 ≠ 0 by omega)
  have e1 := Int.emod_lt_of_pos it.2 (show 0 < many + 1 by omega)
  refine sq_i ?_
  walk_at "vx"
  refine ⟨by omega, ?_⟩
  have e2 : -1 ≤ it.2 % (many + 1) - 1 ∧ it.2 % (many + 1) - 1 < many := by omega
  generalize it.2 % (many + 1) - 1 = tgt at e2 ⊢
  refine sq_i ?_
  walk_at "vx"
  refine sq_cut (fun env => ∃ mode : Str, env = [some (.tup [.int it.1, .int it.2]), some (.int src), some (.int many), some (.lst m (nm.map .str)), some (.int tgt), some (.str mode)] ∧ ((tgt = -1 ∧ mode = "new") ∨ (0 ≤ tgt ∧ tgt < many ∧ okMode mode))) ?_ ?_
  · walk_at "vx"
    refine ⟨fun h => ?_, fun h => ⟨_, rfl, .inl ⟨h, rfl⟩⟩⟩
    refine ix_map (f := D.str) (xs := ["new", "near", "far"]) "" (by omega) (show _ < (3 : Int) by omega) ⟨rfl, _, rfl, .inr ⟨by omega, by omega, ?_⟩⟩
    exact modeM_ok (c := it.1 / 8 % 3) (by omega) (by omega)
  rintro _ ⟨mode, rfl, hm⟩
  walk_at "vx"
  refine ⟨by omega, ix_nm h2 fun s hs => ⟨rfl, ?_⟩⟩
  exact q ⟨src, s, [], [], tgt, mode⟩ rfl rfl rfl ⟨⟨h0, h1⟩, h4 s hs, ⟨Nat.zero_le _, fun a m => by cases m⟩, ⟨Nat.zero_le _, fun a m => by cases m⟩, hm⟩
-- needs: m_by L_number_by
def sp_L_ask_by : SpD := fun ds Q => ∃ (it : Int × Int) (nb many : Int), ds = [itD it, .int nb, .int many] ∧ 0 ≤ nb ∧ 0 < many ∧ ∀ a, okAskB many nb a → Q (askD2 a)
theorem len_L_ask_by : ∀ ds Q, sp_L_ask_by ds Q → ds.length = 3 := by rintro _ _ ⟨_, _, _, rfl, _⟩; rfl
theorem u_L_ask_by {it : Int × Int} {nb many : Int} {Q : D → Prop} (h0 : 0 ≤ nb) (h1 : 0 < many) (q : ∀ a, okAskB many nb a → Q (askD2 a)) : sp_L_ask_by [itD it, .int nb, .int many] Q := ⟨it, nb, many, rfl, h0, h1, q⟩
theorem d_L_ask_by : ∀ ds Q, sp_L_ask_by ds Q → w_L_ask_by sp_L_number_by { nx := fun _ => Q .non, rt := fun d _ => Q d } (env0 6 ds) := by
  rintro _ Q ⟨it, nb, many, rfl, h0, h1, q⟩
  unfold w_L_ask_by itD
  refine sq_i ?_
  walk_at "vx"
  generalize it.1 / 8 = pick
  refine sq_i ?_
  walk_at "vx"
  refine ⟨fun hp => ?_, fun hp => ?_⟩
  · have m0 := Int.emod_nonneg it.2 (show many ≠ 0 by omega)
    have m1 := Int.emod_lt_of_pos it.2 h1
    refine ix_map (f := D.str) (xs := ["open", "shut"]) "" (by omega) (show _ < (2 : Int) by omega) ⟨rfl, h1, ?_⟩
    rcases (show pick % 6 - 4 = 0 ∨ pick % 6 - 4 = 1 by omega) with e | e <;> rw [e]
    · exact q (.op true (it.2 % many)) ⟨m0, m1⟩
    · exact q (.op false (it.2 % many)) ⟨m0, m1⟩
  refine sq_i ?_
  walk_at "vx"
  refine ⟨by omega, u_L_number_by ?_⟩
  have ht := okTmB_mod (nb := nb) (x := pick / 6) (y := it.2) h0
  generalize numB it.2 = n1 at ht ⊢
  generalize pick / 6 % (nb + 1) - 1 = b1 at ht ⊢
  refine sq_i ?_
  walk_at "vx"
  have ht2 := okTmB_mod (nb := nb) (x := pick / 24) (y := it.2 * 48271 % 2147483647) h0
  refine ⟨by omega, u_L_number_by ?_⟩
  generalize numB (it.2 * 48271 % 2147483647) = n2 at ht2 ⊢
  generalize pick / 24 % (nb + 1) - 1 = b2 at ht2 ⊢
  refine ix_map (f := D.str) (xs := ["<", "<=", "=", "!="]) "" (by omega) (show _ < (4 : Int) by omega) ⟨rfl, ?_⟩
  rcases (show pick % 6 = 0 ∨ pick % 6 = 1 ∨ pick % 6 = 2 ∨ pick % 6 = 3 by omega) with e | e | e | e <;> rw [e]
  · exact q (.nu .lt (b1, n1) (b2, n2)) ⟨ht, ht2⟩
  · exact q (.nu .le (b1, n1) (b2, n2)) ⟨ht, ht2⟩
  · exact q (.nu .eq (b1, n1) (b2, n2)) ⟨ht, ht2⟩
  · exact q (.nu .ne (b1, n1) (b2, n2)) ⟨ht, ht2⟩
-- needs: m_same
mutual
theorem okS_eqOk : ∀ (n : Nat) (d : D), okS n d = true → eqOk d n = true
  | 0, _, h => by cases h
  | n + 1, .int _, _ => rfl
  | n + 1, .str _, h => h
  | n + 1, .lst _ xs, h => by
    rw [okS, Bool.and_eq_true, List.all_eq_true] at h
    rw [eqOk]; exact okS_eqOkL n xs h.2
  | n + 1, .tup xs, h => by
    rw [okS, Bool.and_eq_true, List.all_eq_true] at h
    rw [eqOk]; exact okS_eqOkL n xs h.2
  | n + 1, .non, h => by cases h
  | n + 1, .bl _, h => by cases h
  | n + 1, .dic _ _ _, h => by cases h
  | n + 1, .dit _ _ _, h => by cases h
  | n + 1, .obj _ _ _ _, h => by cases h
  | n + 1, .opq, h => by cases h
theorem okS_eqOkL : ∀ (n : Nat) (ds : List D), (∀ d ∈ ds, okS n d = true) → eqOkL ds n = true
  | _, [], _ => rfl
  | n, d :: ds, h => by
    rw [eqOkL, okS_eqOk n d (h d List.mem_cons_self), okS_eqOkL n ds fun x m => h x (List.mem_cons_of_mem _ m)]; rfl
end
theorem deq_sameL {m m' : Bool} {xs : List D} (h : ∀ d ∈ xs, okS 50 d = true) (hl : xs.length < 2 ^ 62) : deq (.lst m xs) (.lst m' xs) = true := PySem.SeqAt.eqv_refl _ (canLay_of (.lst m xs) 60 (by rw [eqOk]; exact okS_eqOkL 59 xs fun d hd => okS_mono (by omega) (h d hd)))
theorem eqOk_sameL {m : Bool} {xs : List D} (h : ∀ d ∈ xs, okS 50 d = true) : eqOk (.lst m xs) 60 = true := by
  rw [eqOk]; exact okS_eqOkL 59 xs fun d hd => okS_mono (by omega) (h d hd)
-- needs: m_by m_eqok m_same
theorem okS_tD (a b : Int) (n : Nat) : okS (n + 2) (tD a b) = true := okS_tup (by show 2 < 2 ^ 62; decide) fun x hx => by
  simp only [List.mem_cons, List.not_mem_nil, or_false] at hx
  rcases hx with rfl | rfl <;> rfl
theorem okS_deB {nb : Int} {d : Deed} (h : okDeB nb d) (n : Nat) : okS (n + 3) (dD d) = true := by
  have h1 : PyData.strOk "put" = true ∧ PyData.strOk "call" = true ∧ PyData.strOk "say" = true := by decide +kernel
  cases d with
  | put b t =>
    refine okS_tup (by show 3 < 2 ^ 62; decide) fun x hx => ?_
    simp only [List.mem_cons, List.not_mem_nil, or_false] at hx
    rcases hx with rfl | rfl | rfl
    · exact h1.1
    · rfl
    · exact okS_tD _ _ _
  | call s =>
    refine okS_tup (by show 2 < 2 ^ 62; decide) fun x hx => ?_
    simp only [List.mem_cons, List.not_mem_nil, or_false] at hx
    rcases hx with rfl | rfl
    · exact h1.2.1
    · exact h.1
  | say s t =>
    refine okS_tup (by show 3 < 2 ^ 62; decide) fun x hx => ?_
    simp only [List.mem_cons, List.not_mem_nil, or_false] at hx
    rcases hx with rfl | rfl | rfl
    · exact h1.2.2
    · exact h.1.1
    · exact okS_tD _ _ _
theorem okS_askB {many nb : Int} {a : Ask} (h : okAskB many nb a) (n : Nat) : okS (n + 3) (askD2 a) = true := by
  have h1 : PyData.strOk "open" = true ∧ PyData.strOk "shut" = true := by decide +kernel
  cases a with
  | op b k =>
    refine okS_tup (by show 2 < 2 ^ 62; decide) fun x hx => ?_
    simp only [List.mem_cons, List.not_mem_nil, or_false] at hx
    rcases hx with rfl | rfl
    · cases b
      · exact h1.2
      · exact h1.1
    · rfl
  | nu mk x y =>
    refine okS_tup (by show 3 < 2 ^ 62; decide) fun z hz => ?_
    simp only [List.mem_cons, List.not_mem_nil, or_false] at hz
    rcases hz with rfl | rfl | rfl
    · cases mk <;> (show PyData.strOk _ = true) <;> decide +kernel
    · exact okS_tD _ _ _
    · exact okS_tD _ _ _
theorem okS_dsB {nb : Int} {ds : List Deed} (hl : ds.length ≤ 41) (h : ∀ d ∈ ds, okDeB nb d) (n : Nat) : okS (n + 4) (dsD ds) = true :=
  okS_tup (by rw [List.length_map]; omega) fun x hx => by
    obtain ⟨d, hd, rfl⟩ := List.mem_map.mp hx
    exact okS_deB (h d hd) n
theorem okMode_str {s : Str} (h : okMode s) : PyData.strOk s = true := by
  have hs : PyData.strOk "new" = true ∧ PyData.strOk "near" = true ∧ PyData.strOk "far" = true := by decide +kernel
  rcases h with e | e | e <;> rw [e]
  · exact hs.1
  · exact hs.2.1
  · exact hs.2.2
theorem okWayB.mode {many nb : Int} {w : Way} (h : okWayB many nb w) : okMode w.mode := h.tgt.elim (fun e => .inl e.2) fun e => e.2.2
theorem okS_wayB {many nb : Int} {w : Way} (h : okWayB many nb w) (n : Nat) : okS (n + 5) (wayD w) = true := by
  refine okS_tup (by show 6 < 2 ^ 62; decide) fun x hx => ?_
  simp only [List.mem_cons, List.not_mem_nil, or_false] at hx
  have ha := h.asks
  rcases hx with rfl | rfl | rfl | rfl | rfl | rfl
  · rfl
  · exact h.sign.1
  · refine okS_tup (by rw [List.length_map]; omega) fun x hx => ?_
    obtain ⟨a, ha, rfl⟩ := List.mem_map.mp hx
    exact okS_askB (h.asks.2 a ha) n
  · exact okS_dsB h.deeds.1 h.deeds.2 n
  · rfl
  · exact okMode_str h.mode
theorem okS_strs {ks : List Str} (h : ∀ s ∈ ks, PyData.strOk s = true) (hl : ks.length ≤ 1000) (m : Bool) (n : Nat) : okS (n + 2) (.lst m (ks.map .str)) = true :=
  okS_lst (by rw [List.length_map]; omega) fun x hx => by
    obtain ⟨s, hs, rfl⟩ := List.mem_map.mp hx
    exact h s hs
theorem okKs_str {es : List Int} {ks : List Str} (h : okKs es ks) : ∀ s ∈ ks, PyData.strOk s = true := fun s m => by
  obtain ⟨k, hk, rfl⟩ := List.mem_iff_getElem.mp m
  have e : kdM ks (k : Int) = ks[k] := by
    unfold kdM
    rw [Int.toNat_natCast, List.getD_eq_getElem?_getD, List.getElem?_eq_getElem hk]; rfl
  have h1 : PyData.strOk "leaf" = true ∧ PyData.strOk "all" = true ∧ PyData.strOk "one" = true := by decide +kernel
  rw [← e]
  rcases h.2 k (by rw [← h.1]; exact hk) with z | z
  · rw [z.2]; exact h1.1
  · rcases z.2 with z | z <;> rw [z]
    · exact h1.2.1
    · exact h1.2.2
theorem okS_pb {P : PB} (ok : okPB P) : okS 11 (.lst false (pbL P)) = true := by
  have hl := ok.many
  have h1 := ok.bl
  have h2 := ok.nl
  have h3 := ok.kk.1
  have h4 := ok.hs.1
  have h5 := ok.wl
  have h6 := ok.ins.1
  have h7 := ok.outs.1
  refine okS_lst (by show 8 < 2 ^ 62; decide) fun x hx => ?_
  simp only [pbL, List.mem_cons, List.not_mem_nil, or_false] at hx
  rcases hx with rfl | rfl | rfl | rfl | rfl | rfl | rfl | rfl
  · refine okS_lst (n := 9) (by rw [List.length_map]; omega) fun x hx => ?_
    obtain ⟨b, hb, rfl⟩ := List.mem_map.mp hx
    refine okS_tup (n := 8) (by show 2 < 2 ^ 62; decide) fun y hy => ?_
    simp only [List.mem_cons, List.not_mem_nil, or_false] at hy
    rcases hy with rfl | rfl
    · exact (ok.bx b hb).1.1
    · rfl
  · exact okS_strs (fun s m => (ok.nm s m).1) (by omega) _ 8
  · exact okS_strs (okKs_str ok.kk) (by omega) _ 8
  · exact okS_lI (n := 8) (by omega)
  · exact okS_lI (n := 8) (by omega)
  · refine okS_lst (n := 9) (by rw [List.length_map]; omega) fun x hx => ?_
    obtain ⟨ds, hd, rfl⟩ := List.mem_map.mp hx
    exact okS_dsB (ok.ins.2 ds hd).1 (ok.ins.2 ds hd).2 5
  · refine okS_lst (n := 9) (by rw [List.length_map]; omega) fun x hx => ?_
    obtain ⟨ds, hd, rfl⟩ := List.mem_map.mp hx
    exact okS_dsB (ok.outs.2 ds hd).1 (ok.outs.2 ds hd).2 5
  · refine okS_lst (n := 9) (by rw [List.length_map]; omega) fun x hx => ?_
    obtain ⟨w, hw, rfl⟩ := List.mem_map.mp hx
    exact okS_wayB (ok.ways w hw) 4
-- needs: m_byS L_deed_by L_way_by L_ask_by
def itsD (items : List (Int × Int)) : D := .lst false (items.map itD)
def sp_L_owns_by : SpD := fun ds Q => ∃ (items : List (Int × Int)) (nb : Int) (many : Nat) (m : Bool) (nm : List Str), ds = [.lst false (items.map itD), .int nb, .int many, .lst m (nm.map .str)] ∧ m = false ∧ items.length ≤ 40 ∧ 0 ≤ nb ∧ nb ≤ 3 ∧ many = 1 + cntN items ∧ 0 < nm.length ∧ nm.length ≤ 1000 ∧ (∀ s ∈ nm, okNm s) ∧
  ∀ (ins outs : List (List Deed)) (ways : List Way), okDss nb many ins → okDss nb many outs → ways.length ≤ 41 → (∀ w ∈ ways, okWayB many nb w) → Q (.lst true [.lst true (ins.map dsD), .lst true (outs.map dsD), .lst true (ways.map wayD)])
theorem len_L_owns_by : ∀ ds Q, sp_L_owns_by ds Q → ds.length = 4 := by rintro _ _ ⟨_, _, _, _, _, rfl, _⟩; rfl
theorem u_L_owns_by {items : List (Int × Int)} {nb : Int} {many : Nat} {nm : List Str} {Q : D → Prop} (h1 : items.length ≤ 40) (h2 : 0 ≤ nb) (h3 : nb ≤ 3) (h4 : many = 1 + cntN items) (h5 : 0 < nm.length) (h6 : nm.length ≤ 1000) (h7 : ∀ s ∈ nm, okNm s) (q : ∀ (ins outs : List (List Deed)) (ways : List Way), okDss nb many ins → okDss nb many outs → ways.length ≤ 41 → (∀ w ∈ ways, okWayB many nb w) → Q (.lst true [.lst true (ins.map dsD), .lst true (outs.map dsD), .lst true (ways.map wayD)])) : sp_L_owns_by [.lst false (items.map itD), .int nb, .int many, .lst false (nm.map .str)] Q := ⟨items, nb, many, _, nm, rfl, rfl, h1, h2, h3, h4, h5, h6, h7, q⟩
/-- what has been gathered behind n cells -/
structure okOwn (nb : Int) (many n c : Nat) (ins outs : List (List Deed)) (ways : List Way) : Prop where
  li : ins.length = 1 + c
  lo : outs.length = 1 + c
  i : ∀ ds ∈ ins, ds.length ≤ n ∧ ∀ d ∈ ds, okDeB nb d
  o : ∀ ds ∈ outs, ds.length ≤ n ∧ ∀ d ∈ ds, okDeB nb d
  lw : ways.length ≤ n
  w : ∀ w ∈ ways, okWayB many nb w ∧ w.asks.length ≤ n ∧ w.deeds.length ≤ n
theorem okOwn.mono {nb : Int} {many n c : Nat} {ins outs : List (List Deed)} {ways : List Way} (h : okOwn nb many n c ins outs ways) : okOwn nb many (n + 1) c ins outs ways :=
  ⟨h.li, h.lo, fun ds m => ⟨by have := (h.i ds m).1; omega, (h.i ds m).2⟩, fun ds m => ⟨by have := (h.o ds m).1; omega, (h.o ds m).2⟩, by have := h.lw; omega, fun w m => ⟨(h.w w m).1, by have := (h.w w m).2.1; omega, by have := (h.w w m).2.2; omega⟩⟩
theorem c6_to2 (a b c d e f : D) : cutD [a, b, c, d, e, f] none (some 2) = [a, b] := by rw [cutD_to _ (by decide)]; rfl
theorem c6_to3 (a b c d e f : D) : cutD [a, b, c, d, e, f] none (some 3) = [a, b, c] := by rw [cutD_to _ (by decide)]; rfl
theorem c6_from3 (a b c d e f : D) : cutD [a, b, c, d, e, f] (some 3) none = [d, e, f] := by rw [cutD_from _ (by decide)]; rfl
theorem c6_from4 (a b c d e f : D) : cutD [a, b, c, d, e, f] (some 4) none = [e, f] := by rw [cutD_from _ (by decide)]; rfl
theorem setlast {ws : List Way} (w : Way) (x : D) (w2 : Way) (e : x = wayD w2) : ((ws ++ [w]).map wayD).set ws.length x = (ws ++ [w2]).map wayD := by
  rw [List.map_append, List.map_append, e, List.set_append_right _ _ (by rw [List.length_map]; exact Nat.le_refl _), List.length_map, Nat.sub_self]; rfl
theorem ixN_last (n : Nat) : ixN (n + 1) (-1) = some n := by
  unfold ixN
  rw [if_neg (by decide)]
  split
  · congr 1; omega
  · omega
theorem ix_lastw {ws : List Way} {w : Way} {Q : D → Prop} (q : Q (wayD w)) : ∃ d, atI ((ws ++ [w]).map wayD) (-1) = some d ∧ Q d := by
  refine ⟨wayD w, ?_, q⟩
  unfold atI
  rw [List.length_map, List.length_append, List.length_singleton, ixN_last]
  simp
theorem deq_nilL (m m' : Bool) (xs : List D) : deq (.lst m xs) (.lst m' []) = decide (xs = []) := by
  cases xs with
  | nil => rfl
  | cons x xs => rw [decide_eq_false (by simp)]; rfl
theorem okOwn.addw {nb : Int} {many n c : Nat} {ins outs : List (List Deed)} {ways : List Way} (h : okOwn nb many n c ins outs ways) {w : Way} (hw : okWayB many nb w) (ha : w.asks = []) (hd : w.deeds = []) : okOwn nb many (n + 1) c ins outs (ways ++ [w]) := by
  have om := h.mono
  refine ⟨om.li, om.lo, om.i, om.o, by have := h.lw; rw [List.length_append, List.length_singleton]; omega, fun x m => ?_⟩
  rcases List.mem_append.mp m with m | m
  · exact om.w x m
  · rw [List.mem_singleton.mp m]
    exact ⟨hw, by rw [ha]; exact Nat.zero_le _, by rw [hd]; exact Nat.zero_le _⟩
theorem okOwn.setw {nb : Int} {many n c : Nat} {ins outs : List (List Deed)} {ways : List Way} {w0 : Way} (h : okOwn nb many n c ins outs (ways ++ [w0])) {w : Way} (hw : okWayB many nb w) (ha : w.asks.length ≤ n + 1) (hd : w.deeds.length ≤ n + 1) : okOwn nb many (n + 1) c ins outs (ways ++ [w]) := by
  have om := h.mono
  refine ⟨om.li, om.lo, om.i, om.o, by have := om.lw; rw [List.length_append, List.length_singleton] at *; omega, fun x m => ?_⟩
  rcases List.mem_append.mp m with m | m
  · exact om.w x (List.mem_append_left _ m)
  · rw [List.mem_singleton.mp m]
    exact ⟨hw, ha, hd⟩
theorem d_L_owns_by : ∀ ds Q, sp_L_owns_by ds Q → w_L_owns_by sp_L_deed_by sp_L_way_by sp_L_ask_by { nx := fun _ => Q .non, rt := fun d _ => Q d } (env0 11 ds) := by
  rintro _ Q ⟨items, nb, many, _, nm, rfl, rfl, h1, h2, h3, h4, h5, h6, h7, q⟩
  unfold w_L_owns_by
  refine sq_i ?_
  walk_at "vx"
  refine sq_i ?_
  walk_at "vx"
  refine sq_i ?_
  walk_at "vx"
  refine sq_i ?_
  refine for_pre itD (xs := items) (fun Q q => by walk_at "vx"; rw [frzL_it]; exact ⟨noOwnL_map itD noOwn_it _, q⟩)
    (fun pre env => ∃ ins outs ways o7 o8 o9 o10, env = [some (.lst false (items.map itD)), some (.int nb), some (.int many), some (.lst false (nm.map .str)), some (.lst true (ins.map dsD)), some (.lst true (outs.map dsD)), some (.lst true (ways.map wayD)), o7, o8, o9, o10] ∧ okOwn nb many pre.length (cntN pre) ins outs ways) ⟨[[]], [[]], [], _, _, _, _, rfl, ⟨rfl, rfl, fun ds m => by rw [List.mem_singleton.mp m]; exact ⟨Nat.le_refl _, fun d m => by cases m⟩, fun ds m => by rw [List.mem_singleton.mp m]; exact ⟨Nat.le_refl _, fun d m => by cases m⟩, Nat.le_refl _, fun w m => by cases m⟩⟩ ?_ ?_
  · rintro pre it post _ e ⟨ins, outs, ways, o7, o8, o9, o10, rfl, ow⟩
    have pl : pre.length < 40 := by
      have : items.length = pre.length + (post.length + 1) := by rw [e]; simp
      omega
    have hc := cntN_le pre
    have cm : cntN pre + (if moodQ it = true then 1 else 0) < many := by
      have := cntN_pre (pre ++ [it]) post
      rw [cntN_snoc, List.append_assoc, List.singleton_append, ← e] at this
      omega
    rw [cntN_snoc, List.length_append, List.length_singleton]
    have li := ow.li
    have lo := ow.lo
    have lw := ow.lw
    have dq : moodQ it = decide (it.1 % 8 < 3) := rfl
    have deed : ∀ {Q : D → Prop}, (∀ d, okDeB nb d → Q (dD d)) → sp_L_deed_by [.tup [.int it.1, .int it.2], .int nb, .lst false (nm.map .str)] Q := fun q => u_L_deed_by (it := it) h2 h3 h5 h6 h7 q
    refine sq_i ?_
    rw [show itD it = .tup [.int it.1, .int it.2] from rfl]
    walk_at "vx"
    refine sq_i ?_
    walk_at "vx"
    have hidx : (ins.length : Int) - 1 = ((cntN pre : Nat) : Int) := by omega
    rw [hidx]
    refine ⟨fun k3 => ?_, fun k3 => ?_⟩
    · rw [decide_eq_true k3] at dq
      rw [dq, if_pos rfl]
      refine sq_i ?_
      walk_at "vx"
      refine ⟨by omega, ?_⟩
      refine ⟨by omega, ins ++ [[]], outs ++ [[]], ways, _, _, _, _, by rw [List.map_append, List.map_append]; rfl, ?_⟩
      have om := ow.mono
      refine ⟨by rw [List.length_append, li]; rfl, by rw [List.length_append, lo]; rfl, fun ds m => ?_, fun ds m => ?_, om.lw, om.w⟩
      · rcases List.mem_append.mp m with m | m
        · exact om.i ds m
        · rw [List.mem_singleton.mp m]; exact ⟨Nat.zero_le _, fun d m => by cases m⟩
      · rcases List.mem_append.mp m with m | m
        · exact om.o ds m
        · rw [List.mem_singleton.mp m]; exact ⟨Nat.zero_le _, fun d m => by cases m⟩
    rw [decide_eq_false k3] at dq
    rw [dq, if_neg Bool.false_ne_true, Nat.add_zero] at *
    have om := ow.mono
    have setok : ∀ (l : List (List Deed)) (d : Deed), okDeB nb d → l.length = 1 + cntN pre → (∀ ds ∈ l, ds.length ≤ pre.length ∧ ∀ d ∈ ds, okDeB nb d) → (l.set (cntN pre) (l.getD (cntN pre) [] ++ [d])).length = 1 + cntN pre ∧ ∀ ds ∈ l.set (cntN pre) (l.getD (cntN pre) [] ++ [d]), ds.length ≤ pre.length + 1 ∧ ∀ d ∈ ds, okDeB nb d := fun l d hd hl hx => by
      refine ⟨by rw [List.length_set, hl], fun ds m => ?_⟩
      rcases List.mem_or_eq_of_mem_set m with m | m
      · exact ⟨by have := (hx ds m).1; omega, (hx ds m).2⟩
      · have h0 := hx _ (getD_mem (d := []) (show cntN pre < l.length by omega))
        rw [m]
        refine ⟨by rw [List.length_append, List.length_singleton]; omega, fun x mx => ?_⟩
        rcases List.mem_append.mp mx with mx | mx
        · exact h0.2 x mx
        · rw [List.mem_singleton.mp mx]; exact hd
    refine ⟨fun k4 => ?_, fun k4 => ?_⟩
    · rw [frzL_str]
      refine ix_map (f := dsD) (xs := ins) [] (by omega) (by omega) ?_
      refine deed fun d hd => ⟨.inr (noOwnL_str _), ?_⟩
      rw [Int.toNat_natCast]
      have sz := (ow.i _ (getD_mem (d := []) (show cntN pre < ins.length by omega))).1
      obtain ⟨s1, s2⟩ := setok ins d hd li ow.i
      generalize ins.getD (cntN pre) [] = old at sz s1 s2 ⊢
      unfold dsD
      walk_at "wx"
      refine ⟨noOwnL_map dD noOwn_dD _, noOwn_dD _, by omega, cntN pre, ixN_nat (by omega), ins.set (cntN pre) (old ++ [d]), outs, ways, _, _, _, _, by rw [List.map_set, List.map_append]; rfl, ⟨s1, om.lo, s2, om.o, om.lw, om.w⟩⟩
    refine ⟨fun k5 => ?_, fun k5 => ?_⟩
    · rw [frzL_str]
      refine ix_map (f := dsD) (xs := outs) [] (by omega) (by omega) ?_
      refine deed fun d hd => ⟨.inr (noOwnL_str _), ?_⟩
      rw [Int.toNat_natCast]
      have sz := (ow.o _ (getD_mem (d := []) (show cntN pre < outs.length by omega))).1
      obtain ⟨s1, s2⟩ := setok outs d hd lo ow.o
      generalize outs.getD (cntN pre) [] = old at sz s1 s2 ⊢
      unfold dsD
      walk_at "wx"
      refine ⟨noOwnL_map dD noOwn_dD _, noOwn_dD _, by omega, cntN pre, ixN_nat (by omega), ins, outs.set (cntN pre) (old ++ [d]), ways, _, _, _, _, by rw [List.map_set, List.map_append]; rfl, ⟨om.li, s1, om.i, s2, om.lw, om.w⟩⟩
    simp only [frzL_str]
    rw [deq_nilL]
    refine ⟨fun k6 => ?_, fun k6 => ?_⟩
    · refine ⟨by omega, u_L_way_by (it := it) (nb := nb) (by omega) (by omega) h5 h6 h7 fun w ws wa wd hw => ⟨.inr (noOwnL_str _), ins, outs, ways ++ [w], _, _, _, _, by rw [List.map_append]; rfl, ow.addw hw wa wd⟩⟩
    refine ⟨⟨by rw [eqOk]; exact okS_eqOkL 59 _ fun x hx => (by
      obtain ⟨w, hw, rfl⟩ := List.mem_map.mp hx
      exact okS_wayB (ow.w w hw).1 54), rfl⟩, fun k7 => ?_, fun k7 => ?_⟩
    · refine ⟨by omega, u_L_way_by (it := it) (nb := nb) (by omega) (by omega) h5 h6 h7 fun w ws wa wd hw => ⟨.inr (noOwnL_str _), ins, outs, ways ++ [w], _, _, _, _, by rw [List.map_append]; rfl, ow.addw hw wa wd⟩⟩
    have hne : ways ≠ [] := fun z => of_decide_eq_false k7 (by rw [z]; rfl)
    obtain ⟨ws, w, rfl⟩ : ∃ ws w, ways = ws ++ [w] := ⟨ways.dropLast, ways.getLast hne, (List.dropLast_concat_getLast hne).symm⟩
    have wE : wayD w = .tup [.int w.src, .str w.sign, .tup (w.asks.map askD2), dsD w.deeds, .int w.tgt, .str w.mode] := rfl
    have ww := ow.w w (by simp)
    have lw2 : ws.length + 1 ≤ pre.length := by simpa using lw
    refine ix_lastw ?_
    rw [wE]
    walk_at "vx"
    refine ⟨fun _ => ⟨by rw [List.length_append, List.length_singleton]; omega, u_L_way_by (it := it) (nb := nb) (by omega) (by omega) h5 h6 h7 fun w2 ws2 wa wd hw => ⟨.inr (noOwnL_str _), ins, outs, (ws ++ [w]) ++ [w2], _, _, _, _, by rw [List.map_append (l₁ := ws ++ [w])]; rfl, ow.addw hw wa wd⟩⟩, fun hsrc => ⟨fun k8 => ?_, fun k8 => ?_⟩⟩
    · refine sq_i ?_
      walk_at "vx"
      refine ix_lastw ⟨noOwn_way w, ?_⟩
      rw [wE]
      walk_at "vx"
      simp only [c6_to2, c6_from3]
      walk_at "wx"
      have nA : noOwnL (w.asks.map askD2) = true := noOwnL_map askD2 noOwn_ask _
      have la := ww.2.1
      refine ⟨⟨nA, noOwn_dsD _⟩, by decide, u_L_ask_by (it := it) h2 (by omega) fun a ha => ⟨nA, noOwn_ask a, by omega, by have := noOwnL_map askD2 noOwn_ask (w.asks ++ [a]); rw [List.map_append] at this; exact this, ⟨nA, noOwn_dsD _⟩, by decide, by have := noOwnL_map askD2 noOwn_ask (w.asks ++ [a]); rw [List.map_append] at this; exact this, noOwn_dsD _, ws.length, by rw [List.length_append, List.length_singleton]; exact ixN_last _, ins, outs, ws ++ [{ w with asks := w.asks ++ [a] }], _, _, _, _, by rw [setlast w _ { w with asks := w.asks ++ [a] } (by show D.tup _ = D.tup [_, _, .tup ((w.asks ++ [a]).map askD2), _, _, _]; rw [List.map_append]; rfl)], ?_⟩⟩
      · refine ow.setw ⟨ww.1.src, ww.1.sign, ⟨by show (w.asks ++ [a]).length ≤ 41; rw [List.length_append, List.length_singleton]; omega, fun x m => ?_⟩, ww.1.deeds, ww.1.tgt⟩ (by show (w.asks ++ [a]).length ≤ _; rw [List.length_append, List.length_singleton]; omega) (by have := ww.2.2; show w.deeds.length ≤ _; omega)
        rcases List.mem_append.mp m with m | m
        · exact ww.1.asks.2 x m
        · rw [List.mem_singleton.mp m]; exact ha
    · refine sq_i ?_
      walk_at "vx"
      refine ix_lastw ⟨noOwn_way w, ?_⟩
      rw [wE]
      walk_at "vx"
      simp only [c6_to3, c6_from4]
      walk_at "wx"
      have nA : noOwnL (w.asks.map askD2) = true := noOwnL_map askD2 noOwn_ask _
      have la := ww.2.2
      rw [frzL_str]
      refine ⟨⟨nA, noOwn_dsD _⟩, by decide, deed fun d hd => ⟨.inr (noOwnL_str _), ?_⟩⟩
      have nD : noOwnL (w.deeds.map dD) = true := noOwnL_map dD noOwn_dD _
      unfold dsD
      walk_at "wx"
      have nD2 : noOwnL (w.deeds.map dD ++ [dD d]) = true := by have := noOwnL_map dD noOwn_dD (w.deeds ++ [d]); rw [List.map_append] at this; exact this
      refine ⟨nD, noOwn_dD d, by omega, nA, nD2, ⟨nA, nD⟩, by decide, ⟨nA, nD2⟩, ws.length, by rw [List.length_append, List.length_singleton]; exact ixN_last _, ins, outs, ws ++ [{ w with deeds := w.deeds ++ [d] }], _, _, _, _, by rw [setlast w _ { w with deeds := w.deeds ++ [d] } (by show D.tup _ = D.tup [_, _, _, .tup ((w.deeds ++ [d]).map dD), _, _]; rw [List.map_append]; rfl)], ?_⟩
      refine ow.setw ⟨ww.1.src, ww.1.sign, ww.1.asks, ⟨by show (w.deeds ++ [d]).length ≤ 41; rw [List.length_append, List.length_singleton]; omega, fun x m => ?_⟩, ww.1.tgt⟩ (by have := ww.2.1; show w.asks.length ≤ _; omega) (by show (w.deeds ++ [d]).length ≤ _; rw [List.length_append, List.length_singleton]; omega)
      rcases List.mem_append.mp m with m | m
      · exact ww.1.deeds.2 x m
      · rw [List.mem_singleton.mp m]; exact hd
  · rintro _ ⟨ins, outs, ways, o7, o8, o9, o10, rfl, ow⟩
    walk_at "vx"
    refine q ins outs ways ⟨by rw [ow.li]; omega, fun ds m => ⟨by have := (ow.i ds m).1; omega, (ow.i ds m).2⟩⟩ ⟨by rw [ow.lo]; omega, fun ds m => ⟨by have := (ow.o ds m).1; omega, (ow.o ds m).2⟩⟩ (by have := ow.lw; omega) fun w m => (ow.w w m).1
-- needs: m_byS L_elders_by_2 L_names_by L_number_by L_kinds_by L_owns_by u_cell
def sp_L_parts_by : SpD := fun ds Q => ∃ (ns : List Int), ds = [lI false ns] ∧ ns.length ≤ 63 ∧ ∀ P, okPB P → Q (.lst true (pbL P))
theorem len_L_parts_by : ∀ ds Q, sp_L_parts_by ds Q → ds.length = 1 := by rintro _ _ ⟨_, rfl, _⟩; rfl
theorem u_L_parts_by {ns : List Int} {Q : D → Prop} (hl : ns.length ≤ 63) (q : ∀ P, okPB P → Q (.lst true (pbL P))) : sp_L_parts_by [lI false ns] Q := ⟨ns, rfl, hl, q⟩
theorem d_L_parts_by : ∀ ds Q, sp_L_parts_by ds Q → w_L_parts_by sp_L_cell_at sp_L_elders_by_2 sp_L_names_by sp_L_number_by sp_L_kinds_by sp_L_owns_by { nx := fun _ => Q .non, rt := fun d _ => Q d } (env0 10 ds) := by
  rintro _ Q ⟨ns, rfl, hl, q⟩
  unfold w_L_parts_by
  refine sq_i ?_
  walk_at "vx"
  refine u_L_cell_at0 (by omega) ?_
  walk_at "wx"
  generalize ns.getD 1 0 / 5 = head
  refine sq_i ?_
  walk_at "vx"
  have hmin : (if (82 : Int) < ns.length then (82 : Int) else ns.length) ≤ ns.length ∧ (if (82 : Int) < ns.length then (82 : Int) else ns.length) ≤ 82 := by split <;> omega
  have hmin0 : 0 ≤ (if (82 : Int) < ns.length then (82 : Int) else ns.length) := by split <;> omega
  obtain ⟨J, eJ⟩ : ∃ J, J = (if (82 : Int) < ns.length then (82 : Int) else ns.length) := ⟨_, rfl⟩
  rw [← eJ] at hmin hmin0
  obtain ⟨n, en⟩ : ∃ n : Nat, n = ((J - 2 + 1) / 2).toNat := ⟨_, rfl⟩
  have hn : n ≤ 40 ∧ (n : Int) * 2 ≤ J := by omega
  refine lc_maps (xs := List.range n) (fun i : Nat => D.int (2 + (i : Int) * 2)) (fun a b h => by have := D.int.inj h; omega) (fun Q q => ?_) (fun _ => true) (fun i : Nat => itD (ns.getD (2 + (i : Int) * 2).toNat 0, ns.getD (2 + (i : Int) * 2 + 1).toNat 0)) (fun i _ => by walk_at "vx") (fun i hi _ => ?_) (by rw [size_line, List.length_range]; omega) ?_
  · walk_at "vx"
    rw [← eJ]
    exact ⟨2, J, rfl, by omega, by rw [← en]; exact q⟩
  · have hi := List.mem_range.mp hi
    walk_at "vx"
    exact ix_lI (by omega) (by omega) ⟨rfl, u_L_cell_at0 (by omega) rfl⟩
  rw [List.filter_eq_self.mpr fun _ _ => rfl]
  obtain ⟨items, ei, li⟩ : ∃ items : List (Int × Int), (List.range n).map (fun i : Nat => itD (ns.getD (2 + (i : Int) * 2).toNat 0, ns.getD (2 + (i : Int) * 2 + 1).toNat 0)) = items.map itD ∧ items.length = n := ⟨(List.range n).map fun i : Nat => (ns.getD (2 + (i : Int) * 2).toNat 0, ns.getD (2 + (i : Int) * 2 + 1).toNat 0), by rw [List.map_map]; rfl, by rw [List.length_map, List.length_range]⟩
  rw [ei]
  have l40 : items.length ≤ 40 := by omega
  have cl := cntN_le items
  refine sq_i ?_
  walk_at "vx"
  rw [frzL_it]
  refine u_L_elders_by_2 (by omega) fun es oke le => ?_
  refine ⟨.inl (by show (true && aloL _) = true; rw [aloL_lI]; rfl), ?_⟩
  have e4 : (es.length : Int) + 4 = ((es.length + 4 : Nat) : Int) := rfl
  refine sq_i ?_
  walk_at "vx"
  rw [e4]
  refine u_L_names_by (by omega) fun nm hnl hnm => ?_
  walk_at "wx"
  refine sq_i ?_
  refine lc_rng1 (j := head % 4) (fun Q q => by walk_at "vx"; exact q) (by omega) (by omega) (fun k => bxP (nm.getD k "", numB (ns.getD (3 + 2 * (k : Int)).toNat 0))) (fun k hk => ?_) ?_
  · walk_at "vx"
    refine ix_map (f := D.str) "" (by omega) (by omega) ⟨rfl, u_L_cell_at0 (by omega) (u_L_number_by ⟨.inl rfl, ?_⟩)⟩
    rw [Int.toNat_natCast]; rfl
  obtain ⟨bx, eb, lb, hb⟩ : ∃ bx : List (Str × Int), (List.range (head % 4).toNat).map (fun k : Nat => bxP (nm.getD k "", numB (ns.getD (3 + 2 * (k : Int)).toNat 0))) = bx.map bxP ∧ bx.length ≤ 3 ∧ ∀ b ∈ bx, okNm b.1 ∧ okNb b.2 := by
    refine ⟨(List.range (head % 4).toNat).map fun k : Nat => (nm.getD k "", numB (ns.getD (3 + 2 * (k : Int)).toNat 0)), by rw [List.map_map]; rfl, by rw [List.length_map, List.length_range]; omega, fun b m => ?_⟩
    obtain ⟨k, hk, rfl⟩ := List.mem_map.mp m
    have hk := List.mem_range.mp hk
    exact ⟨hnm _ (getD_mem (by omega)), numB_ok _⟩
  rw [eb]
  refine sq_i ?_
  refine ⟨_, rfl, ?_⟩
  rw [show frz (.lst true (items.map itD)) = .lst false (items.map itD) by simp only [frz, frzL_it]]
  walk_at "vx"
  refine lc_maps (xs := items) itD (fun a b h => by
      have h := D.tup.inj h
      simp only [List.cons.injEq, D.int.injEq, and_true] at h
      exact Prod.ext h.1 h.2) (fun Q q => by walk_at "vx"; rw [frzL_it]; exact ⟨noOwnL_map itD noOwn_it _, q⟩) moodQ (fun p => .int p.2) (fun p _ => by rw [show itD p = .tup [.int p.1, .int p.2] from rfl]; walk_at "vx"; rfl) (fun p _ _ => by rw [show itD p = .tup [.int p.1, .int p.2] from rfl]; walk_at "vx") (by rw [size_line]; omega) ?_
  rw [show (items.filter moodQ).map (fun p : Int × Int => D.int p.2) = ((items.filter moodQ).map fun p => p.2).map .int by rw [List.map_map]; rfl]
  have lc : ((items.filter moodQ).map fun p : Int × Int => p.2).length = cntN items := by rw [List.length_map]; rfl
  generalize ((items.filter moodQ).map fun p : Int × Int => p.2) = cells at lc ⊢
  walk_at "vx"
  refine ⟨by omega, ?_⟩
  rw [show D.int (head / 4) :: cells.map .int = (head / 4 :: cells).map .int from rfl]
  refine u_L_kinds_by (by omega) (by rw [List.length_cons]; omega) fun ks ss hks hss => ?_
  refine ⟨.inl (by simp only [alo, aloL, aloL_str, aloL_lI, Bool.and_true]), ?_⟩
  refine sq_i ?_
  walk_at "vx"
  simp only [frzL_it, frzL_str, frzL_bxP]
  have em : es.length = 1 + cntN items := le
  refine u_L_owns_by (many := es.length) l40 (by omega) (by omega) em (by omega) (by omega) hnm fun ins outs ways hi ho hwl hw => ?_
  refine ⟨.inl (by simp only [alo, aloL, aloL_dsD, aloL_way, Bool.and_true]), noOwnL_map bxP noOwn_bxP _, noOwnL_str _, noOwnL_str _, ?_⟩
  rw [cutD_to _ (by omega), Int.toNat_natCast, ← List.map_take]
  have hq := q ⟨bx, nm.take es.length, ks, es, ss, ins, outs, ways⟩ ⟨oke, by show es.length ≤ 41; omega, hks, hss, lb, hb, by show (nm.take es.length).length = es.length; rw [List.length_take]; omega, fun s m => hnm s (List.mem_of_mem_take m), hi, ho, hwl, hw⟩
  rw [show frz (.lst true [.lst true (ins.map dsD), .lst true (outs.map dsD), .lst true (ways.map wayD)]) = .lst false [.lst false (ins.map dsD), .lst false (outs.map dsD), .lst false (ways.map wayD)] by simp only [frz, frzL, frzL_dsD, frzL_way]]
  walk_at "vx"
  rw [frzL_str]
  exact ⟨⟨noOwnL_map bxP noOwn_bxP _, noOwnL_str _, noOwnL_str _⟩, ⟨noOwnL_dsD _, noOwnL_dsD _, noOwnL_way _⟩, hq⟩
-- needs: m_tree Tree_init
theorem u_Tree {m1 m2 m3 : Bool} {ks : List Str} {es ss : List Int} {P : Prop} {Q : D → Prop} (q : Q (treeD true ks es ss)) : sp_Tree_init [.obj true "Tree" [] [], .lst m1 (ks.map .str), lI m2 es, lI m3 ss] (fun r ds' => ∃ d' rest, ds' = d' :: rest ∧ r = .non ∧ (alo d' = true ∨ P) ∧ Q d') :=
  ⟨m1, m2, m3, _, _, _, rfl, noOwnL_str ks, noOwn_lI es, noOwn_lI ss, _, _, rfl, rfl, .inl (alo_tree ks es ss), q⟩
-- needs: m_chart u_tree
theorem u_Chart {m1 m2 m3 m4 m5 m6 : Bool} {bs nm il ol wl : List D} {ks : List Str} {es ss : List Int} {P : Prop} {Q : D → Prop} (n1 : noOwnL bs = true) (n2 : noOwnL nm = true) (n4 : noOwnL il = true) (n5 : noOwnL ol = true) (n6 : noOwnL wl = true)
    (a1 : aloL bs = true) (a2 : aloL nm = true) (a4 : aloL il = true) (a5 : aloL ol = true) (a6 : aloL wl = true) (q : Q (chartD true bs nm (treeD true ks es ss) il ol wl)) :
    sp_Chart_init [.obj true "Chart" [] [], .lst m1 bs, .lst m2 nm, treeD m3 ks es ss, .lst m4 il, .lst m5 ol, .lst m6 wl] (fun r ds' => ∃ d' rest, ds' = d' :: rest ∧ r = .non ∧ (alo d' = true ∨ P) ∧ Q d') :=
  ⟨m1, m2, m3, m4, m5, m6, bs, nm, ks, es, ss, il, ol, wl, rfl, n1, n2, n4, n5, n6, _, _, rfl, rfl, .inl (by
    show (true && aloL [.lst true bs, .lst true nm, treeD true ks es ss, .lst true il, .lst true ol, .lst true wl]) = true
    simp only [aloL, alo, a1, a2, a4, a5, a6, alo_tree, Bool.and_true]), q⟩
-- needs: m_by u_chart
def chB (m : Bool) (P : PB) : D := chartD m (P.bx.map bxP) (P.nm.map .str) (treeD m P.ks P.es P.ss) (P.ins.map dsD) (P.outs.map dsD) (P.ways.map wayD)
theorem frz_chB (m : Bool) (P : PB) : frz (chB m P) = chB false P := by
  unfold chB
  rw [frz_chart, frz_tree, frzL_bxP, frzL_str, frzL_dsD, frzL_dsD, frzL_way]
theorem alo_chB (P : PB) : alo (chB true P) = true := by
  show (true && aloL [.lst true (P.bx.map bxP), .lst true (P.nm.map .str), treeD true P.ks P.es P.ss, .lst true (P.ins.map dsD), .lst true (P.outs.map dsD), .lst true (P.ways.map wayD)]) = true
  simp only [aloL, alo, aloL_map bxP (fun _ => rfl), aloL_str, aloL_dsD, aloL_way, alo_tree, Bool.and_true]
def sp_L_chart_by : SpD := fun ds Q => ∃ P, ds = [.lst false (pbL P)] ∧ Q (chB true P)
theorem len_L_chart_by : ∀ ds Q, sp_L_chart_by ds Q → ds.length = 1 := by rintro _ _ ⟨_, rfl, _⟩; rfl
theorem u_L_chart_by {P : PB} {Q : D → Prop} (q : Q (chB true P)) : sp_L_chart_by [.lst false (pbL P)] Q := ⟨P, rfl, q⟩
theorem d_L_chart_by : ∀ ds Q, sp_L_chart_by ds Q → w_L_chart_by sp_Tree_init sp_Chart_init { nx := fun _ => Q .non, rt := fun d _ => Q d } (env0 2 ds) := by
  rintro _ Q ⟨P, rfl, q⟩
  unfold w_L_chart_by pbL
  refine sq_i ?_
  walk_at "vx"
  simp only [frzL_str]
  refine ⟨noOwnL_str _, ?_⟩
  refine u_Tree ?_
  refine ⟨noOwnL_map bxP noOwn_bxP _, noOwnL_str _, noOwnL_dsD _, _, rfl, ?_⟩
  show noOwnL (P.outs.map dsD) = true ∧ _
  refine ⟨noOwnL_dsD _, _, rfl, ?_⟩
  show noOwnL (P.ways.map wayD) = true ∧ _
  refine ⟨noOwnL_way _, ?_⟩
  simp only [frzL_bxP, frz_tree, frzL_dsD]
  rw [show frz (.lst true (P.outs.map dsD)) = .lst false (frzL (P.outs.map dsD)) from rfl, frzL_dsD, show frz (.lst true (P.ways.map wayD)) = .lst false (frzL (P.ways.map wayD)) from rfl, frzL_way]
  exact u_Chart (noOwnL_map bxP noOwn_bxP _) (noOwnL_str _) (noOwnL_dsD _) (noOwnL_dsD _) (noOwnL_way _) (aloL_map bxP (fun _ => rfl) _) (aloL_str _) (aloL_dsD _) (aloL_dsD _) (aloL_way _) q
-- needs: m_by
/-! ### rows and their lines -/
def okFar (x : Int) : Prop := -(10 ^ 60) < x ∧ x < 10 ^ 60
inductive RowB where
  | mood (b : Bool) (k : Int)
  | keep (k x y : Int)
  | put (b x y : Int)
  | say (n : Str) (x : Int)
  | num (b : Bool) (x : Int)
  | word (b : Bool) (n : Str)
def rowD : RowB → D
  | .mood b k => .tup [.str (if b then "in" else "out"), .int k]
  | .keep k x y => .tup [.str "keep", .int k, .int x, .int y]
  | .put b x y => .tup [.str "put", .int b, .int x, .int y]
  | .say n x => .tup [.str "say", .str n, .int x]
  | .num b x => .tup [.str (if b then "way" else "rest"), .int x]
  | .word b n => .tup [.str (if b then "sign" else "call"), .str n]
def okRowB (P : PB) : RowB → Prop
  | .mood _ k => 0 ≤ k ∧ k < P.nm.length
  | .keep k _ y => (0 ≤ k ∧ k < P.nm.length) ∧ 0 ≤ y ∧ y < P.nm.length
  | .put b x y => (0 ≤ b ∧ b < P.bx.length) ∧ okFar x ∧ okFar y
  | .say n x => okNm n ∧ okFar x
  | .num _ x => okFar x
  | .word _ n => okNm n
def nmB (P : PB) (k : Int) : Str := P.nm.getD k.toNat ""
def txI (x : Int) : Str := Str.ofString (toString x)
def lineB (P : PB) : RowB → Str
  | .mood b k => (if b then "in" else "out") ++ (" " : Str) ++ nmB P k
  | .keep k _ y => ("keep " : Str) ++ nmB P k ++ " " ++ nmB P y
  | .put b x y => ("put " : Str) ++ (P.bx.getD b.toNat ("", 0)).1 ++ " " ++ txI x ++ " " ++ txI y
  | .say n x => ("say " : Str) ++ n ++ " " ++ txI x
  | .num b x => (if b then "way" else "rest") ++ (" " : Str) ++ txI x
  | .word b n => (if b then "sign" else "call") ++ (" " : Str) ++ n
theorem txI_log {x : Int} (h : okFar x) : x.natAbs.log2 < 1920 := by
  have h1 : x.natAbs < 2 ^ 1920 := by
    have : x.natAbs < 10 ^ 60 := by unfold okFar at h; omega
    have : (10 : Nat) ^ 60 ≤ 2 ^ 1920 := by decide +kernel
    omega
  by_cases h0 : x.natAbs = 0
  · rw [h0]; decide
  · exact (Nat.log2_lt h0).mpr h1
theorem txI_len {x : Int} (h : okFar x) : (txI x).length ≤ 61 := by
  unfold txI
  rw [PySem.ofString_length]
  exact PySem.int_text_length_le10 (k := 60) (by decide) (by unfold okFar at h; omega)
theorem strOk_txI (x : Int) : PyData.strOk (txI x) = true := strOk_ofString _
theorem noOwn_rowB (r : RowB) : noOwn (rowD r) = true := by cases r <;> rfl
theorem frz_rowB (r : RowB) : frz (rowD r) = rowD r := frz_id _ (noOwn_rowB r)
theorem nmB_ok {P : PB} (ok : okPB P) {k : Int} (h0 : 0 ≤ k) (h1 : k < P.nm.length) : okNm (nmB P k) := ok.nm _ (getD_mem (by omega))
theorem if_T {c : Bool} {X Y : Prop} (h : c = true) (x : X) : (c = true → X) ∧ (c = false → Y) := ⟨fun _ => x, fun z => (by rw [h] at z; cases z)⟩
theorem if_F {c : Bool} {X Y : Prop} (h : c = false) (y : Y) : (c = true → X) ∧ (c = false → Y) := ⟨fun z => (by rw [h] at z; cases z), fun _ => y⟩
-- needs: m_by m_rowB m_name m_ifB
/-! ### the text of a chart -/
def bsP (P : PB) : List Str := P.bx.map Prod.fst
def nmD (nm : List Str) (k : Int) : Str := nm.getD k.toNat ""
def termT (bs : List Str) (t : Int × Int) : Str :=
  if t.1 = -1 then txI t.2 else if 0 < t.2 then nmD bs t.1 ++ "+" ++ txI t.2 else if t.2 < 0 then nmD bs t.1 ++ txI t.2 else nmD bs t.1
def deedT (bs : List Str) : Deed → Str
  | .put b t => ("put " : Str) ++ nmD bs b ++ " " ++ termT bs t
  | .call n => ("call " : Str) ++ n
  | .say n t => ("say " : Str) ++ n ++ " " ++ termT bs t
def askT (bs nm : List Str) : Ask → Str
  | .op b k => (if b then ("open" : Str) else ("shut" : Str)) ++ (" " : Str) ++ nmD nm k
  | .nu m x y => termT bs x ++ " " ++ mS m ++ " " ++ termT bs y
def chainT (first sep : Str) : List Str → Str → Str
  | [], r => r
  | x :: xs, r => chainT sep sep xs (r ++ first ++ x)
theorem chainT_join (sep : Str) : ∀ (xs : List Str) (first x r : Str), chainT first sep (x :: xs) r = r ++ first ++ Txt.join sep (x :: xs) := by
  intro xs
  induction xs with
  | nil => intro first x r; rfl
  | cons y ys ih =>
    intro first x r
    show chainT sep sep (y :: ys) (r ++ first ++ x) = _
    rw [ih, TL.join_eq, TL.join_eq]
    show (r ++ first ++ x) ++ sep ++ Str.join sep (y :: ys) = r ++ first ++ (x ++ sep ++ Str.join sep (y :: ys))
    simp only [Str.append_assoc]
def wayT (bs nm : List Str) (w : Way) : Str :=
  let r := chainT " do " " then " (w.deeds.map (deedT bs)) (chainT " if " " and " (w.asks.map (askT bs nm)) (("on " : Str) ++ w.sign))
  if w.tgt = -1 then r else if w.mode = "new" then r ++ " to " ++ nmD nm w.tgt else r ++ " to " ++ nmD nm w.tgt ++ " " ++ w.mode
def moodT (P : PB) (k : Nat) : Str :=
  if kdM P.ks k = "one" then kdM P.ks k ++ " " ++ P.nm.getD k "" ++ " " ++ nmD P.nm (elD P.ss k) else kdM P.ks k ++ " " ++ P.nm.getD k ""
def blT (P : PB) (k : Nat) : Str := repS " " (aboveM P.es k).length
def ownT (P : PB) (k : Nat) : List Str :=
  (P.ins.getD k []).map (fun d => ("in " : Str) ++ deedT (bsP P) d) ++ (P.outs.getD k []).map (fun d => ("out " : Str) ++ deedT (bsP P) d) ++ (P.ways.filter fun w => decide (w.src = (k : Int))).map (wayT (bsP P) P.nm)
def bxT (b : Str × Int) : Str := ("box " : Str) ++ b.1 ++ " " ++ txI b.2
def moodRows (P : PB) (k : Nat) : List Str := (blT P k ++ moodT P k) :: (ownT P k).map fun r => blT P k ++ " " ++ r
def rowsT (P : PB) (n : Nat) : List Str := P.bx.map bxT ++ (List.range n).flatMap (moodRows P)
theorem rowsT_succ (P : PB) (n : Nat) : rowsT P (n + 1) = rowsT P n ++ moodRows P n := by
  unfold rowsT
  rw [List.range_succ, List.flatMap_append, List.flatMap_singleton, List.append_assoc]
/-! ### how long -/
theorem okNb_far {x : Int} (h : okNb x) : okFar x := by unfold okNb at h; unfold okFar; omega
theorem okNb_len {x : Int} (h : okNb x) : (txI x).length ≤ 61 := txI_len (okNb_far h)
structure LenOk (bs nm : List Str) : Prop where
  b : ∀ s ∈ bs, s.length ≤ 40
  n : ∀ s ∈ nm, s.length ≤ 40
theorem nmD_le {nm : List Str} (h : ∀ s ∈ nm, s.length ≤ 40) (k : Int) : (nmD nm k).length ≤ 40 := by
  unfold nmD
  by_cases hk : k.toNat < nm.length
  · exact h _ (getD_mem hk)
  · rw [getD_ge (by omega)]; decide +kernel
theorem termT_le {bs : List Str} (h : ∀ s ∈ bs, s.length ≤ 40) {t : Int × Int} (ht : okNb t.2) : (termT bs t).length ≤ 102 := by
  have e : (Str.ofString "+").length = 1 := by decide +kernel
  have h1 := nmD_le h t.1
  have h2 := okNb_len ht
  unfold termT
  split
  · omega
  · split
    · rw [len_app, len_app]; omega
    · split
      · rw [len_app]; omega
      · omega
theorem deedT_le {bs : List Str} (h : ∀ s ∈ bs, s.length ≤ 40) {nb : Int} {d : Deed} (hd : okDeB nb d) : (deedT bs d).length ≤ 150 := by
  have e1 : (Str.ofString "put ").length = 4 := by decide +kernel
  have e2 : (Str.ofString "call ").length = 5 := by decide +kernel
  have e3 : (Str.ofString "say ").length = 4 := by decide +kernel
  have e4 : (Str.ofString " ").length = 1 := by decide +kernel
  cases d with
  | put b t =>
    have h1 := nmD_le h b
    have h2 := termT_le h hd.2.2
    show (("put " : Str) ++ nmD bs b ++ " " ++ termT bs t).length ≤ 150
    rw [len_app, len_app, len_app]; omega
  | call n =>
    have h1 := hd.2
    show (("call " : Str) ++ n).length ≤ 150
    rw [len_app]; omega
  | say n t =>
    have h1 := hd.1.2
    have h2 := termT_le h hd.2.2
    show (("say " : Str) ++ n ++ " " ++ termT bs t).length ≤ 150
    rw [len_app, len_app, len_app]; omega
theorem askT_le {bs nm : List Str} (h : ∀ s ∈ bs, s.length ≤ 40) (hn : ∀ s ∈ nm, s.length ≤ 40) {many nb : Int} {a : Ask} (ha : okAskB many nb a) : (askT bs nm a).length ≤ 210 := by
  have e1 : (Str.ofString "open").length = 4 := by decide +kernel
  have e2 : (Str.ofString "shut").length = 4 := by decide +kernel
  have e4 : (Str.ofString " ").length = 1 := by decide +kernel
  cases a with
  | op b k =>
    have h1 := nmD_le hn k
    cases b
    · show (Str.ofString "shut" ++ (" " : Str) ++ nmD nm k).length ≤ 210
      rw [len_app, len_app]; omega
    · show (Str.ofString "open" ++ (" " : Str) ++ nmD nm k).length ≤ 210
      rw [len_app, len_app]; omega
  | nu m x y =>
    have h1 := termT_le h ha.1.2
    have h2 := termT_le h ha.2.2
    have h3 : (mS m).length ≤ 2 := by cases m <;> decide +kernel
    show (termT bs x ++ " " ++ mS m ++ " " ++ termT bs y).length ≤ 210
    rw [len_app, len_app, len_app, len_app]; omega
theorem chainT_le {first sep : Str} {c : Nat} (h1 : first.length ≤ 8) (h2 : sep.length ≤ 8) : ∀ (xs : List Str) (r : Str), (∀ x ∈ xs, x.length ≤ c) → (chainT first sep xs r).length ≤ r.length + xs.length * (c + 8) := by
  intro xs
  induction xs generalizing first with
  | nil => intro r _; exact Nat.le_add_right _ _
  | cons x xs ih =>
    intro r h
    have := ih h2 (r ++ first ++ x) fun y m => h y (List.mem_cons_of_mem _ m)
    rw [len_app, len_app] at this
    have hx := h x List.mem_cons_self
    show (chainT sep sep xs (r ++ first ++ x)).length ≤ _
    rw [List.length_cons, Nat.succ_mul]
    omega
theorem join_le {sep : Str} {c : Nat} (h2 : sep.length ≤ 8) (xs : List Str) (h : ∀ x ∈ xs, x.length ≤ c) : (xs.map (·.length)).sum + xs.length * sep.length ≤ xs.length * (c + 8) := by
  induction xs with
  | nil => simp
  | cons x xs ih =>
    have := ih fun y m => h y (List.mem_cons_of_mem _ m)
    have hx := h x List.mem_cons_self
    rw [List.map_cons, List.sum_cons, List.length_cons, Nat.succ_mul, Nat.succ_mul]
    omega
theorem wayT_le {bs nm : List Str} (h : ∀ s ∈ bs, s.length ≤ 40) (hn : ∀ s ∈ nm, s.length ≤ 40) {many nb : Int} {w : Way} (hw : okWayB many nb w) : (wayT bs nm w).length ≤ 20000 := by
  have e1 : (Str.ofString "on ").length = 3 := by decide +kernel
  have e2 : (Str.ofString " to ").length = 4 := by decide +kernel
  have e4 : (Str.ofString " ").length = 1 := by decide +kernel
  have hA := chainT_le (first := " if ") (sep := " and ") (c := 210) (by decide +kernel) (by decide +kernel) (w.asks.map (askT bs nm)) (("on " : Str) ++ w.sign) fun x m => by
    obtain ⟨a, ma, rfl⟩ := List.mem_map.mp m
    exact askT_le h hn (hw.asks.2 a ma)
  have hD := chainT_le (first := " do ") (sep := " then ") (c := 150) (by decide +kernel) (by decide +kernel) (w.deeds.map (deedT bs)) (chainT " if " " and " (w.asks.map (askT bs nm)) (("on " : Str) ++ w.sign)) fun x m => by
    obtain ⟨a, ma, rfl⟩ := List.mem_map.mp m
    exact deedT_le h (hw.deeds.2 a ma)
  rw [List.length_map] at hA hD
  rw [len_app] at hA
  have hs := hw.sign.2
  have l1 : w.asks.length * (210 + 8) ≤ 41 * 218 := Nat.mul_le_mul_right _ hw.asks.1
  have l2 : w.deeds.length * (150 + 8) ≤ 41 * 158 := Nat.mul_le_mul_right _ hw.deeds.1
  have hm : w.mode.length ≤ 4 := by
    rcases hw.mode with e | e | e <;> rw [e] <;> decide +kernel
  have ht := nmD_le hn w.tgt
  unfold wayT
  simp only []
  split
  · omega
  · split
    · rw [len_app, len_app]; omega
    · rw [len_app, len_app, len_app, len_app]; omega
-- needs: m_text L_chart_by
theorem frz_tD (t : Int × Int) : frz (tD t.1 t.2) = tD t.1 t.2 := rfl
theorem txI_lim {x : Int} (h : okNb x) : x.natAbs.log2 < 1920 := txI_log (okNb_far h)
theorem bsP_le {P : PB} (ok : okPB P) : ∀ s ∈ bsP P, s.length ≤ 40 := fun s m => by
  obtain ⟨b, hb, rfl⟩ := List.mem_map.mp m
  exact (ok.bx b hb).1.2
theorem nmP_le {P : PB} (ok : okPB P) : ∀ s ∈ P.nm, s.length ≤ 40 := fun s m => (ok.nm s m).2
theorem ix_bx {P : PB} {k : Int} {Q : D → Prop} (h0 : 0 ≤ k) (h1 : k < P.bx.length) (q : ∀ n, Q (.tup [.str (nmD (bsP P) k), .int n])) : ∃ d, atI (P.bx.map bxP) k = some d ∧ Q d := by
  refine ix_map (f := bxP) (xs := P.bx) ("", 0) h0 h1 ?_
  have : nmD (bsP P) k = (P.bx.getD k.toNat ("", 0)).1 := by
    unfold nmD bsP
    rw [List.getD_eq_getElem?_getD, List.getElem?_map, List.getD_eq_getElem?_getD]
    cases P.bx[k.toNat]? <;> rfl
  show Q (.tup [.str (P.bx.getD k.toNat ("", 0)).1, .int (P.bx.getD k.toNat ("", 0)).2])
  rw [← this]
  exact q _
def sp_term_text : SpD := fun ds Q => ∃ P t, ds = [chB false P, tD t.1 t.2] ∧ okPB P ∧ okTmB P.bx.length t ∧ Q (.str (termT (bsP P) t))
theorem len_term_text : ∀ ds Q, sp_term_text ds Q → ds.length = 2 := by rintro _ _ ⟨_, _, rfl, _⟩; rfl
theorem u_term_text {P : PB} {t : Int × Int} {Q : D → Prop} (ok : okPB P) (h : okTmB P.bx.length t) (q : Q (.str (termT (bsP P) t))) : sp_term_text [chB false P, tD t.1 t.2] Q := ⟨P, t, rfl, ok, h, q⟩
theorem d_term_text : ∀ ds Q, sp_term_text ds Q → w_term_text { nx := fun _ => Q .non, rt := fun d _ => Q d } (env0 3 ds) := by
  rintro _ Q ⟨P, t, rfl, ok, h, q⟩
  have e : (Str.ofString "+").length = 1 := by decide +kernel
  have hx := okNb_len h.2
  have hn := nmD_le (bsP_le ok) t.1
  unfold termT at q
  unfold w_term_text tD chB
  refine sq_i ?_
  walk_at "vx"
  refine ⟨fun e1 => ⟨txI_lim h.2, by rwa [if_pos e1] at q⟩, fun e1 => ?_⟩
  have h1 := h.1.resolve_left e1
  rw [if_neg e1] at q
  refine sq_i ?_
  walk_at "vc"
  refine ix_bx h1.1 h1.2 fun n => ?_
  walk_at "vx"
  refine sq_i ?_
  walk_at "vx"
  unfold txI at q hx
  refine ⟨fun hp => ⟨by omega, txI_lim h.2, by rw [len_app]; omega, by rwa [if_pos hp] at q⟩, fun hp => ?_⟩
  rw [if_neg hp] at q
  refine sq_i ?_
  walk_at "vx"
  exact ⟨fun hp => ⟨txI_lim h.2, by omega, by rwa [if_pos hp] at q⟩, fun hp => by rwa [if_neg hp] at q⟩
-- needs: term_text
def sp_deed_text : SpD := fun ds Q => ∃ P d, ds = [chB false P, dD d] ∧ okPB P ∧ okDeB P.bx.length d ∧ Q (.str (deedT (bsP P) d))
theorem len_deed_text : ∀ ds Q, sp_deed_text ds Q → ds.length = 2 := by rintro _ _ ⟨_, _, rfl, _⟩; rfl
theorem u_deed_text {P : PB} {d : Deed} {Q : D → Prop} (ok : okPB P) (h : okDeB P.bx.length d) (q : Q (.str (deedT (bsP P) d))) : sp_deed_text [chB false P, dD d] Q := ⟨P, d, rfl, ok, h, q⟩
theorem d_deed_text : ∀ ds Q, sp_deed_text ds Q → w_deed_text sp_term_text { nx := fun _ => Q .non, rt := fun d _ => Q d } (env0 2 ds) := by
  rintro _ Q ⟨P, d, rfl, ok, h, q⟩
  have e1 : (Str.ofString "put ").length = 4 := by decide +kernel
  have e2 : (Str.ofString "call ").length = 5 := by decide +kernel
  have e3 : (Str.ofString "say ").length = 4 := by decide +kernel
  have e4 : (Str.ofString " ").length = 1 := by decide +kernel
  unfold w_deed_text
  cases d with
  | put b t =>
    have hb := nmD_le (bsP_le ok) b
    have ht := termT_le (bsP_le ok) h.2.2
    unfold dD
    refine sq_i ?_
    walk_at "vx"
    rw [frz_chB, frz_tD]
    unfold chB
    walk_at "vc"
    refine ix_bx h.1.1 h.1.2 fun n => ?_
    walk_at "vx"
    refine ⟨by omega, by rw [len_app]; omega, u_term_text ok h.2 ⟨.inl rfl, by rw [len_app, len_app]; omega, q⟩⟩
  | call n =>
    have hb := h.2
    unfold dD
    refine sq_i ?_
    walk_at "vx"
    refine sF (by decide +kernel) ?_
    refine sq_i ?_
    walk_at "vx"
    refine sF (by decide +kernel) ?_
    exact ⟨by omega, q⟩
  | say n t =>
    have hb := h.1.2
    have ht := termT_le (bsP_le ok) h.2.2
    unfold dD
    refine sq_i ?_
    walk_at "vx"
    refine sF (by decide +kernel) ?_
    refine sq_i ?_
    walk_at "vx"
    rw [frz_chB, frz_tD]
    refine ⟨by omega, by rw [len_app]; omega, u_term_text ok h.2 ⟨.inl rfl, by rw [len_app, len_app]; omega, q⟩⟩
-- needs: m_parts m_marks m_cell m_mode
/-! ### charts of k31 to k36: drawings -/
def mixM (c s : Int) : Int := ((c % 2147483647 + s) * 48271 % 2147483647) * ((c % 2147483647 + s) * 48271 % 2147483647) % 2147483629
theorem mixM_nn (c s : Int) : 0 ≤ mixM c s := Int.emod_nonneg _ (by decide)
def smallM (c : Int) : Int := if c % 2 = 0 then c / 2 % 9 - 4 else if c % 4 = 1 then c / 4 * 48271 % (10 ^ 30 - 1) else -(c / 4 * 48271 % (10 ^ 30 - 1))
def mrks : List Mrk := [.lt, .le, .eq, .ne]
def fitMk (x y : Int) (good : Bool) : List Mrk := mrks.filter fun m => decide (dueM m x y = good)
theorem fitMk_pos (x y : Int) (good : Bool) : 0 < (fitMk x y good).length := by
  have h : ∃ m ∈ mrks, dueM m x y = good := by
    cases good with
    | true =>
      by_cases e : x = y
      · exact ⟨.eq, by simp [mrks], by simp [dueM, e]⟩
      · exact ⟨.ne, by simp [mrks], by simp [dueM, e]⟩
    | false =>
      by_cases e : x = y
      · exact ⟨.ne, by simp [mrks], by simp [dueM, e]⟩
      · exact ⟨.eq, by simp [mrks], by simp [dueM, e]⟩
  obtain ⟨m, hm, e⟩ := h
  exact List.length_pos_of_mem (List.mem_filter.mpr ⟨hm, decide_eq_true e⟩)
def oneF (c nb : Int) : Int × Int := (mixM c 31 / 9 % (nb + 1) - 1, smallM (c / 3))
def othF (c nb : Int) : Int × Int := if mixM c 31 / 729 % 3 = 0 then ((oneF c nb).1, (oneF c nb).2 + mixM c 31 / 2187 % 3 - 1) else (mixM c 31 / 81 % (nb + 1) - 1, smallM (c / 5 + 1))
def askF (c : Int) (op : List Int) (many : Int) (bx : List Int) : Ask :=
  if mixM c 31 / 3 % 3 = 0 then .op (decide (decide (mixM c 31 / 9 % many ∈ op) = decide (0 < mixM c 31 % 3))) (mixM c 31 / 9 % many)
  else .nu ((fitMk (valM bx (oneF c bx.length).1 (oneF c bx.length).2) (valM bx (othF c bx.length).1 (othF c bx.length).2) (decide (0 < mixM c 31 % 3))).getD
    (mixM c 31 / 6561 % ((fitMk (valM bx (oneF c bx.length).1 (oneF c bx.length).2) (valM bx (othF c bx.length).1 (othF c bx.length).2) (decide (0 < mixM c 31 % 3))).length : Nat)).toNat .lt) (oneF c bx.length) (othF c bx.length)
theorem oneF_ok (c : Int) {nb : Int} (h : 0 ≤ nb) : okTm nb (oneF c nb) := okTm_mod h
theorem othF_ok (c : Int) {nb : Int} (h : 0 ≤ nb) : okTm nb (othF c nb) := by
  unfold othF
  split
  · exact oneF_ok c h
  · exact okTm_mod h
theorem askF_ok {c : Int} {op : List Int} {many : Int} {bx : List Int} (h : 0 < many) : okAsk many bx.length (askF c op many bx) := by
  unfold askF
  split
  · exact ⟨Int.emod_nonneg _ (by omega), Int.emod_lt_of_pos _ h⟩
  · exact ⟨oneF_ok c (by omega), othF_ok c (by omega)⟩
def asksF (c : Int) (op : List Int) (many : Int) (bx : List Int) : List Ask := (List.range (mixM c 11 / 100 % 3).toNat).map fun k : Nat => askF (c / ((k : Int) + 1) + 17 * (k : Int)) op many bx
def deedsF (c : Int) (three : List Str) : List Deed := ([[], [.call (three.getD 0 "")], [.say (three.getD 1 "") (-1, 7), .call (three.getD 2 "")]] : List (List Deed)).getD (mixM c 11 / 300 % 3).toNat []
def wayF (c : Int) (op : List Int) (many : Int) (bx : List Int) (three : List Str) : Way where
  src := if mixM c 11 % 2 = 0 then op.getD (mixM c 11 / 2 % (op.length : Nat)).toNat 0 else mixM c 11 / 2 % many
  sign := three.getD (mixM c 13 / 300 % 3).toNat ""
  asks := asksF c op many bx
  deeds := deedsF c three
  tgt := if mixM c 13 % 5 = 0 then -1 else mixM c 13 / 5 % many
  mode := if mixM c 13 % 5 = 0 then "new" else modeM (mixM c 13 / 100 % 3)
structure okThree (three : List Str) : Prop where
  len : three.length = 3
  ok : ∀ x ∈ three, PyData.strOk x = true
theorem okThree.get {three : List Str} (h : okThree three) {k : Nat} (hk : k < 3) : PyData.strOk (three.getD k "") = true :=
  h.ok _ (getD_mem (by rw [h.len]; exact hk))
theorem wayF_ok {c : Int} {op : List Int} {many : Int} {bx : List Int} {three : List Str} (hm : 0 < many) (ho : 0 < op.length) (hop : ∀ x ∈ op, 0 ≤ x ∧ x < many) (h3 : okThree three) : okWay many bx.length (wayF c op many bx three) := by
  have n1 := mixM_nn c 11
  have n2 := mixM_nn c 13
  refine ⟨?_, h3.get (by omega), ⟨?_, ?_⟩, ⟨?_, ?_⟩, ?_⟩
  · unfold wayF
    dsimp only
    split
    · have e0 := Int.emod_nonneg (mixM c 11 / 2) (show ((op.length : Nat) : Int) ≠ 0 by omega)
      have e1 := Int.emod_lt_of_pos (mixM c 11 / 2) (show (0 : Int) < (op.length : Nat) by omega)
      exact hop _ (getD_mem (by omega))
    · exact ⟨Int.emod_nonneg _ (by omega), Int.emod_lt_of_pos _ hm⟩
  · show (asksF c op many bx).length ≤ 2
    unfold asksF; rw [List.length_map, List.length_range]; omega
  · intro a ha
    obtain ⟨k, _, rfl⟩ := List.mem_map.mp ha
    exact askF_ok hm
  · show (deedsF c three).length ≤ 2
    unfold deedsF
    rcases (show mixM c 11 / 300 % 3 = 0 ∨ mixM c 11 / 300 % 3 = 1 ∨ mixM c 11 / 300 % 3 = 2 by omega) with e | e | e <;> rw [e] <;> simp
  · show ∀ d ∈ deedsF c three, okDe bx.length d
    unfold deedsF
    rcases (show mixM c 11 / 300 % 3 = 0 ∨ mixM c 11 / 300 % 3 = 1 ∨ mixM c 11 / 300 % 3 = 2 by omega) with e | e | e <;> rw [e]
    · intro d m; cases m
    · intro d m
      rw [List.mem_singleton.mp m]
      exact h3.get (by decide)
    · intro d m
      have m : d ∈ [Deed.say (three.getD 1 "") (-1, 7), .call (three.getD 2 "")] := m
      simp only [List.mem_cons, List.not_mem_nil, or_false] at m
      rcases m with rfl | rfl
      · exact ⟨h3.get (by decide), .inl rfl⟩
      · exact h3.get (by decide)
  · unfold wayF
    dsimp only
    by_cases e : mixM c 13 % 5 = 0
    · rw [if_pos e, if_pos e]; exact .inl ⟨rfl, rfl⟩
    · rw [if_neg e, if_neg e]
      exact .inr ⟨Int.emod_nonneg _ (by omega), Int.emod_lt_of_pos _ hm, modeM_ok (by omega) (by omega)⟩
/-- the chart of these -/
def bx3 (n : Nat) : List D := (List.range n).map fun k : Nat => .tup [.str (("box" : Str) ++ Str.ofString (toString (k : Int))), .int ((k : Int) - 2)]
def nm3 (n : Nat) : List D := (List.range n).map fun k : Nat => .str (("mood" : Str) ++ Str.ofString (toString (k : Int)))
def rep0 (n : Nat) : List D := List.replicate n (.tup [])
/-- a chart by its tree and its ways -/
def gchD (m : Bool) (bs nm : List D) (ks : List Str) (es ss : List Int) (il ol : List D) (ws : List Way) : D := chartD m bs nm (treeD m ks es ss) il ol (ws.map wayD)
def ch3 (m : Bool) (nb : Nat) (ks : List Str) (es ss : List Int) (ws : List Way) : D := gchD m (bx3 nb) (nm3 es.length) ks es ss (rep0 es.length) (rep0 es.length) ws
theorem noOwnL_bx3 (n : Nat) : noOwnL (bx3 n) = true := noOwnL_map _ (fun _ => rfl) _
theorem aloL_bx3 (n : Nat) : aloL (bx3 n) = true := aloL_map _ (fun _ => rfl) _
theorem noOwnL_nm3 (n : Nat) : noOwnL (nm3 n) = true := noOwnL_map _ (fun _ => rfl) _
theorem aloL_nm3 (n : Nat) : aloL (nm3 n) = true := aloL_map _ (fun _ => rfl) _
theorem noOwnL_rep0 (n : Nat) : noOwnL (rep0 n) = true := by
  rw [noOwnL_all, List.all_eq_true]
  intro x m
  rw [List.eq_of_mem_replicate m]; rfl
theorem aloL_rep0 (n : Nat) : aloL (rep0 n) = true := by
  rw [aloL_all, List.all_eq_true]
  intro x m
  rw [List.eq_of_mem_replicate m]; rfl
theorem frz_gch (m : Bool) (bs nm : List D) (ks : List Str) (es ss : List Int) (il ol : List D) (ws : List Way) : frz (gchD m bs nm ks es ss il ol ws) = gchD false (frzL bs) (frzL nm) ks es ss (frzL il) (frzL ol) ws := by
  unfold gchD
  rw [frz_chart, frz_tree, frzL_way]
theorem frz_ch3 (m : Bool) (nb : Nat) (ks : List Str) (es ss : List Int) (ws : List Way) : frz (ch3 m nb ks es ss ws) = ch3 false nb ks es ss ws := by
  unfold ch3
  rw [frz_gch, frzL_id _ (noOwnL_bx3 _), frzL_id _ (noOwnL_nm3 _), frzL_id _ (noOwnL_rep0 _)]
theorem alo_ch3 (nb : Nat) (ks : List Str) (es ss : List Int) (ws : List Way) : alo (ch3 true nb ks es ss ws) = true := by
  show (true && aloL [.lst true (bx3 nb), .lst true (nm3 es.length), treeD true ks es ss, .lst true (rep0 es.length), .lst true (rep0 es.length), .lst true (ws.map wayD)]) = true
  simp only [aloL, alo, aloL_bx3, aloL_nm3, aloL_rep0, aloL_way, alo_tree, Bool.and_true]
/-! ### what may be gone -/
def fitsA (op : List Int) : Ask → Bool
  | .op true k => decide (k ∈ op)
  | .op false k => !decide (k ∈ op)
  | .nu _ _ _ => true
def fitsM (as : List Ask) (op : List Int) : Bool := as.all (fitsA op)
def wayAtM (ws : List Way) (k : Nat) : Way := ws.getD k ⟨0, "", [], [], 0, ""⟩
def goW (ws : List Way) (op : List Int) (mood : Int) (sign : Str) (k : Nat) : Bool := decide ((wayAtM ws k).src = mood) && (decide ((wayAtM ws k).sign = sign) && fitsM (wayAtM ws k).asks op)
def goesAt (ws : List Way) (op : List Int) (sign : Str) (mood : Int) : List Int := ((List.range ws.length).filter (goW ws op mood sign)).map Int.ofNat
def goesM (ws : List Way) (op chain : List Int) (sign : Str) : List Int := chain.flatMap (goesAt ws op sign)
theorem goesM_snoc (ws : List Way) (op chain : List Int) (sign : Str) (x : Int) : goesM ws op (chain ++ [x]) sign = goesM ws op chain sign ++ goesAt ws op sign x := by
  unfold goesM
  rw [List.flatMap_append, List.flatMap_cons, List.flatMap_nil, List.append_nil]
theorem goesAt_len (ws : List Way) (op : List Int) (sign : Str) (mood : Int) : (goesAt ws op sign mood).length ≤ ws.length := by
  unfold goesAt
  rw [List.length_map]
  exact Nat.le_trans (List.length_filter_le _ _) (by rw [List.length_range]; exact Nat.le_refl _)
theorem goesM_len (ws : List Way) (op chain : List Int) (sign : Str) : (goesM ws op chain sign).length ≤ chain.length * ws.length := by
  induction chain with
  | nil => simp [goesM]
  | cons x xs ih =>
    show ((x :: xs).flatMap (goesAt ws op sign)).length ≤ _
    rw [List.flatMap_cons, List.length_append, List.length_cons, Nat.succ_mul]
    have := goesAt_len ws op sign x
    have : (xs.flatMap (goesAt ws op sign)).length ≤ xs.length * ws.length := ih
    omega
theorem ix_way {ws : List Way} {k : Int} {Q : D → Prop} (h0 : 0 ≤ k) (h1 : k < ws.length) (q : Q (wayD (wayAtM ws k.toNat))) : ∃ d, atI (ws.map wayD) k = some d ∧ Q d := ix_map _ h0 h1 q
theorem wayAtM_mem {ws : List Way} {k : Nat} (h : k < ws.length) : wayAtM ws k ∈ ws := getD_mem h
-- needs: m_pick
def isNu : Ask → Bool
  | .op _ _ => false
  | .nu _ _ _ => true
def holdA (bx : List Int) : Ask → Bool
  | .op _ _ => true
  | .nu m a b => dueM m (valM bx a.1 a.2) (valM bx b.1 b.2)
def holdM (as : List Ask) (bx : List Int) : Bool := as.all (holdA bx)
def numsM (as : List Ask) : List Ask := as.filter isNu
theorem holdM_nums (as : List Ask) (bx : List Int) : holdM (numsM as) bx = holdM as bx := by
  unfold holdM numsM
  induction as with
  | nil => rfl
  | cons a as ih =>
    cases a with
    | op b k => rw [List.filter_cons_of_neg (by simp [isNu]), ih]; rfl
    | nu m x y => rw [List.filter_cons_of_pos rfl, List.all_cons, List.all_cons, ih]
theorem holdM_snoc (pre : List Ask) (a : Ask) (bx : List Int) : holdM (pre ++ [a]) bx = (holdM pre bx && holdA bx a) := by
  unfold holdM; rw [List.all_append, List.all_cons, List.all_nil, Bool.and_true]
theorem holdM_cut {pre post : List Ask} {a : Ask} {bx : List Int} (h : holdA bx a = false) : holdM (pre ++ a :: post) bx = false := by
  unfold holdM; rw [List.all_append, List.all_cons, h, Bool.false_and, Bool.and_false]
def okA (nb : Int) : Ask → Prop
  | .op _ _ => True
  | .nu _ a b => okTm nb a ∧ okTm nb b
theorem okAsk.a {many nb : Int} {a : Ask} (h : okAsk many nb a) : okA nb a := by cases a <;> first | trivial | exact h
theorem frzL_ask2 (as : List Ask) : frzL (as.map askD2) = as.map askD2 := frzL_id _ (noOwnL_map askD2 noOwn_ask as)
theorem mS_ne2 (k : Mrk) : mS k ≠ "open" ∧ mS k ≠ "shut" := by cases k <;> exact ⟨by decide +kernel, by decide +kernel⟩
theorem mS_in (k : Mrk) : ([D.str "<", .str "<=", .str "=", .str "!="].any fun d => deq d (.str (mS k))) = true := by cases k <;> decide +kernel
theorem mood_nin (b : Bool) : ([D.str "<", .str "<=", .str "=", .str "!="].any fun d => deq d (.str (if b then "open" else "shut"))) = false := by cases b <;> decide +kernel
theorem mood_in (b : Bool) : ([D.str "open", .str "shut"].any fun d => deq d (.str (if b then "open" else "shut"))) = true := by cases b <;> decide +kernel
theorem mS_nin (k : Mrk) : ([D.str "open", .str "shut"].any fun d => deq d (.str (mS k))) = false := by cases k <;> decide +kernel
theorem askD2_inj : ∀ a b : Ask, askD2 a = askD2 b → a = b := by
  intro a b h
  have so : ("open" : Str) ≠ "shut" := by decide +kernel
  cases a with
  | op b k => cases b <;> cases b with
    | op c j => cases c <;> simp_all [askD2]
    | nu m x y => simp [askD2] at h
  | nu m x y => cases b with
    | op c j => simp [askD2] at h
    | nu m' x' y' =>
      simp only [askD2, tD, D.tup.injEq, List.cons.injEq, D.str.injEq, D.int.injEq, and_true] at h
      obtain ⟨h1, ⟨h2, h3⟩, h4, h5⟩ := h
      have hm : m = m' := by cases m <;> cases m' <;> first | rfl | exact absurd h1 (by decide +kernel)
      rw [hm, Prod.ext h2 h3, Prod.ext h4 h5]
-- needs: term_text m_hold
def sp_ask_text : SpD := fun ds Q => ∃ P a, ds = [chB false P, askD2 a] ∧ okPB P ∧ okAskB P.nm.length P.bx.length a ∧ Q (.str (askT (bsP P) P.nm a))
theorem len_ask_text : ∀ ds Q, sp_ask_text ds Q → ds.length = 2 := by rintro _ _ ⟨_, _, rfl, _⟩; rfl
theorem u_ask_text {P : PB} {a : Ask} {Q : D → Prop} (ok : okPB P) (h : okAskB P.nm.length P.bx.length a) (q : Q (.str (askT (bsP P) P.nm a))) : sp_ask_text [chB false P, askD2 a] Q := ⟨P, a, rfl, ok, h, q⟩
theorem d_ask_text : ∀ ds Q, sp_ask_text ds Q → w_ask_text sp_term_text { nx := fun _ => Q .non, rt := fun d _ => Q d } (env0 2 ds) := by
  rintro _ Q ⟨P, a, rfl, ok, h, q⟩
  have e1 : (Str.ofString "open").length = 4 := by decide +kernel
  have e2 : (Str.ofString "shut").length = 4 := by decide +kernel
  have e4 : (Str.ofString " ").length = 1 := by decide +kernel
  unfold w_ask_text
  cases a with
  | op b k =>
    have hk := nmD_le (nmP_le ok) k
    unfold nmD at hk
    unfold askD2 chB
    refine sq_i ?_
    walk_at "vc"
    rw [mood_in]
    refine ⟨rfl, if_T rfl ⟨?_, ix_map (f := D.str) (xs := P.nm) "" h.1 h.2 ?_⟩⟩
    · cases b
      · show (Str.ofString "shut").length + _ ≤ _
        omega
      · show (Str.ofString "open").length + _ ≤ _
        omega
    · walk_at "vx"
      refine ⟨?_, q⟩
      cases b
      · show (Str.ofString "shut" ++ Str.ofString " ").length + _ ≤ _
        rw [len_app]; omega
      · show (Str.ofString "open" ++ Str.ofString " ").length + _ ≤ _
        rw [len_app]; omega
  | nu m x y =>
    have h1 := termT_le (bsP_le ok) h.1.2
    have h2 := termT_le (bsP_le ok) h.2.2
    have h3 : (mS m).length ≤ 2 := by cases m <;> decide +kernel
    unfold askD2
    refine sq_i ?_
    walk_at "vx"
    rw [mS_nin]
    refine ⟨rfl, if_F rfl ?_⟩
    rw [frz_chB, frz_tD, frz_tD]
    refine u_term_text ok h.1 ⟨.inl rfl, by omega, by rw [len_app]; omega, by rw [len_app, len_app]; omega, u_term_text ok h.2 ⟨.inl rfl, by rw [len_app, len_app, len_app]; omega, q⟩⟩
-- needs: m_hold
theorem map_injL {α : Type} {f : α → D} (h : ∀ a b, f a = f b → a = b) : ∀ xs ys : List α, xs.map f = ys.map f → xs = ys
  | [], [], _ => rfl
  | [], _ :: _, e => by cases e
  | _ :: _, [], e => by cases e
  | x :: xs, y :: ys, e => by
    rw [List.map_cons, List.map_cons, List.cons.injEq] at e
    rw [h _ _ e.1, map_injL h xs ys e.2]
theorem dD_inj3 : ∀ a b : Deed, dD a = dD b → a = b := by
  intro a b h
  cases a <;> cases b <;> simp only [dD, tD, D.tup.injEq, List.cons.injEq, D.int.injEq, D.str.injEq, reduceCtorEq, and_false, false_and, and_true, true_and] at h
  · obtain ⟨rfl, h1, h2⟩ := h
    rw [Prod.ext h1 h2]
  · rw [h]
  · obtain ⟨rfl, h1, h2⟩ := h
    rw [Prod.ext h1 h2]
theorem wayD_inj : ∀ a b : Way, wayD a = wayD b → a = b := by
  intro a b h
  unfold wayD dsD at h
  simp only [D.tup.injEq, List.cons.injEq, D.str.injEq, D.int.injEq, and_true] at h
  obtain ⟨h1, h2, h3, h4, h5, h6⟩ := h
  have g3 := map_injL askD2_inj _ _ h3
  have g4 := map_injL dD_inj3 _ _ h4
  clear h3 h4
  cases a; cases b
  simp only at h1 h2 g3 g4 h5 h6
  subst h1 h2 g3 g4 h5 h6
  rfl
-- needs: ask_text deed_text m_aft0 m_hold m_wayinj
theorem okP_way {P : PB} (ok : okPB P) {w : Way} (h : okWayB P.nm.length P.bx.length w) : okWayB P.es.length P.bx.length w := by rw [← ok.nl]; exact h
theorem lc_txt {α : Type} {i : Nat} {ti : TAD} {te : TED} {env : Env} {Q : D → Prop} {xs : List α} (c : α → D) (inj : ∀ a b, c a = c b → a = b) (g : α → Str) (hu : ∀ Q : List D → Prop, Q (xs.map c) → ti env Q)
    (h2 : ∀ n ∈ xs, te (env.set i (some (c n))) fun y => y = .str (g n)) (h3 : xs.length ≤ sizeLine) (q : Q (.lst true ((xs.map g).map .str))) : lc_ i ti yes_ te env Q :=
  lc_maps c inj hu (fun _ => true) (fun a => .str (g a)) (fun _ _ => rfl) (fun n m _ => h2 n m) h3 (by rw [List.filter_eq_self.mpr fun _ _ => rfl]; rw [List.map_map] at q; exact q)
theorem frzL_ask (l : List Ask) : frzL (l.map askD2) = l.map askD2 := frzL_id _ (noOwnL_map askD2 noOwn_ask l)
theorem frz_ask (a : Ask) : frz (askD2 a) = askD2 a := frz_id _ (noOwn_ask a)
def sp_way_text : SpD := fun ds Q => ∃ P w, ds = [chB false P, wayD w] ∧ okPB P ∧ okWayB P.nm.length P.bx.length w ∧ Q (.str (wayT (bsP P) P.nm w))
theorem len_way_text : ∀ ds Q, sp_way_text ds Q → ds.length = 2 := by rintro _ _ ⟨_, _, rfl, _⟩; rfl
theorem u_way_text {P : PB} {w : Way} {Q : D → Prop} (ok : okPB P) (h : okWayB P.nm.length P.bx.length w) (q : Q (.str (wayT (bsP P) P.nm w))) : sp_way_text [chB false P, wayD w] Q := ⟨P, w, rfl, ok, h, q⟩
theorem chain_if {f s : Str} {xs : List Str} {r : Str} : chainT f s xs r = if xs = [] then r else r ++ f ++ Txt.join s xs := by
  cases xs with
  | nil => rfl
  | cons x xs => rw [chainT_join, if_neg (by simp)]
theorem d_way_text : ∀ ds Q, sp_way_text ds Q → w_way_text sp_ask_text sp_deed_text { nx := fun _ => Q .non, rt := fun d _ => Q d } (env0 5 ds) := by
  rintro _ Q ⟨P, w, rfl, ok, h, q⟩
  have e1 : (Str.ofString "on ").length = 3 := by decide +kernel
  have e2 : (Str.ofString " to ").length = 4 := by decide +kernel
  have e4 : (Str.ofString " ").length = 1 := by decide +kernel
  have e5 : (Str.ofString " if ").length = 4 := by decide +kernel
  have e6 : (Str.ofString " do ").length = 4 := by decide +kernel
  have hs := h.sign.2
  have ha := h.asks.1
  have hd := h.deeds.1
  have hm : w.mode.length ≤ 4 := by
    rcases h.mode with e | e | e <;> rw [e] <;> decide +kernel
  have jA := join_le (sep := " and ") (c := 210) (by decide +kernel) (w.asks.map (askT (bsP P) P.nm)) fun x m => by
    obtain ⟨a, ma, rfl⟩ := List.mem_map.mp m
    exact askT_le (bsP_le ok) (nmP_le ok) (h.asks.2 a ma)
  have jD := join_le (sep := " then ") (c := 150) (by decide +kernel) (w.deeds.map (deedT (bsP P))) fun x m => by
    obtain ⟨a, ma, rfl⟩ := List.mem_map.mp m
    exact deedT_le (bsP_le ok) (h.deeds.2 a ma)
  rw [List.length_map] at jA jD
  have l1 : w.asks.length * (210 + 8) ≤ 41 * 218 := Nat.mul_le_mul_right _ ha
  have l2 : w.deeds.length * (150 + 8) ≤ 41 * 158 := Nat.mul_le_mul_right _ hd
  unfold w_way_text
  refine sq_i ?_
  rw [show wayD w = .tup [.int w.src, .str w.sign, .tup (w.asks.map askD2), dsD w.deeds, .int w.tgt, .str w.mode] from rfl]
  walk_at "vx"
  refine ⟨by omega, ?_⟩
  have nA : noOwnL (w.asks.map askD2) = true := noOwnL_map askD2 noOwn_ask _
  have hl0 : (Str.ofString "on " ++ w.sign).length ≤ 43 := by rw [len_app]; omega
  have hrow1 : (chainT " if " " and " (w.asks.map (askT (bsP P) P.nm)) (Str.ofString "on " ++ w.sign)).length ≤ 43 + 41 * 218 := by
    have := chainT_le (first := " if ") (sep := " and ") (c := 210) (by decide +kernel) (by decide +kernel) (w.asks.map (askT (bsP P) P.nm)) (Str.ofString "on " ++ w.sign) fun x m => by
      obtain ⟨a, ma, rfl⟩ := List.mem_map.mp m
      exact askT_le (bsP_le ok) (nmP_le ok) (h.asks.2 a ma)
    rw [List.length_map] at this
    omega
  refine sq_cut (fun env => ∃ o3 o4, env = [some (chB false P), some (.tup [.int w.src, .str w.sign, .tup (w.asks.map askD2), dsD w.deeds, .int w.tgt, .str w.mode]), some (.str (chainT " if " " and " (w.asks.map (askT (bsP P) P.nm)) (Str.ofString "on " ++ w.sign))), o3, o4]) ?_ ?_
  · walk_at "vx"
    refine ⟨fun hp => ⟨by omega, ?_⟩, fun hn => ?_⟩
    · refine lc_txt (xs := w.asks) askD2 askD2_inj (askT (bsP P) P.nm) (fun Q q => by walk_at "vx"; rw [frzL_ask]; exact ⟨nA, q⟩) (fun a m => ?_) (by rw [size_line]; omega) ?_
      · walk_at "vx"
        rw [frz_chB, frz_ask]
        exact u_ask_text ok (h.asks.2 a m) ⟨.inl rfl, rfl⟩
      · have hne : w.asks.map (askT (bsP P) P.nm) ≠ [] := fun z => by have := congrArg List.length z; rw [List.length_map] at this; simp at this; rw [this] at hp; simp at hp
        rw [chain_if, if_neg hne, len_app] at hrow1
        refine ⟨_, .inl ⟨_, rfl⟩, by rw [List.length_map]; omega, by omega, _, _, by rw [chain_if, if_neg hne]⟩
    · have hz : w.asks = [] := List.eq_nil_of_length_eq_zero (by omega)
      rw [hz]
      exact ⟨_, _, rfl⟩
  rintro _ ⟨o3, o4, rfl⟩
  have nD : noOwnL (w.deeds.map dD) = true := noOwnL_map dD noOwn_dD _
  unfold wayT at q
  simp only [] at q
  generalize hr1 : chainT " if " " and " (w.asks.map (askT (bsP P) P.nm)) (Str.ofString "on " ++ w.sign) = r1 at hrow1 q
  have hrow2 : (chainT " do " " then " (w.deeds.map (deedT (bsP P))) r1).length ≤ 43 + 41 * 218 + 41 * 158 := by
    have := chainT_le (first := " do ") (sep := " then ") (c := 150) (by decide +kernel) (by decide +kernel) (w.deeds.map (deedT (bsP P))) r1 fun x m => by
      obtain ⟨a, ma, rfl⟩ := List.mem_map.mp m
      exact deedT_le (bsP_le ok) (h.deeds.2 a ma)
    rw [List.length_map] at this
    omega
  refine sq_cut (fun env => ∃ o3 o4, env = [some (chB false P), some (.tup [.int w.src, .str w.sign, .tup (w.asks.map askD2), dsD w.deeds, .int w.tgt, .str w.mode]), some (.str (chainT " do " " then " (w.deeds.map (deedT (bsP P))) r1)), o3, o4]) ?_ ?_
  · unfold dsD
    walk_at "vx"
    refine ⟨fun hp => ⟨by omega, ?_⟩, fun hn => ?_⟩
    · refine lc_txt (xs := w.deeds) dD dD_inj (deedT (bsP P)) (fun Q q => by walk_at "vx"; rw [frzL_id _ nD]; exact ⟨nD, q⟩) (fun a m => ?_) (by rw [size_line]; omega) ?_
      · walk_at "vx"
        rw [frz_chB, frz_id _ (noOwn_dD a)]
        exact u_deed_text ok (h.deeds.2 a m) ⟨.inl rfl, rfl⟩
      · have hne : w.deeds.map (deedT (bsP P)) ≠ [] := fun z => by have := congrArg List.length z; rw [List.length_map] at this; simp at this; rw [this] at hp; simp at hp
        rw [chain_if, if_neg hne, len_app] at hrow2
        exact ⟨_, .inl ⟨_, rfl⟩, by rw [List.length_map]; omega, by omega, _, _, by rw [chain_if, if_neg hne]⟩
    · have hz : w.deeds = [] := List.eq_nil_of_length_eq_zero (by omega)
      rw [hz]
      exact ⟨_, _, rfl⟩
  rintro _ ⟨o3, o4, rfl⟩
  generalize chainT " do " " then " (w.deeds.map (deedT (bsP P))) r1 = r2 at hrow2 q
  have hk := nmD_le (nmP_le ok) w.tgt
  unfold nmD at q hk
  refine sq_cut (fun env => ∃ r o3 o4, env = [some (chB false P), some (.tup [.int w.src, .str w.sign, .tup (w.asks.map askD2), dsD w.deeds, .int w.tgt, .str w.mode]), some (.str r), o3, o4] ∧ Q (.str r)) ?_ ?_
  · walk_at "vx"
    refine ⟨fun e => ?_, fun e => ⟨_, _, _, rfl, by rwa [if_pos e] at q⟩⟩
    rw [if_neg e] at q
    have ht := h.tgt.resolve_left fun z => e z.1
    unfold chB
    refine sq_i ?_
    walk_at "vc"
    refine ⟨by omega, ix_map (f := D.str) (xs := P.nm) "" ht.1 ht.2.1 ?_⟩
    walk_at "vx"
    refine ⟨by rw [len_app]; omega, ?_⟩
    walk_at "wx"
    refine ⟨fun e5 => ⟨by rw [len_app, len_app]; omega, by rw [len_app, len_app, len_app]; omega, _, _, _, rfl, by rwa [if_neg e5] at q⟩, fun e5 => ⟨_, _, _, rfl, by rwa [if_pos e5] at q⟩⟩
  · rintro _ ⟨r, o3, o4, rfl, q⟩
    walk_at "vx"
    exact q
-- needs: way_text
theorem okP_w {P : PB} (ok : okPB P) {w : Way} (m : w ∈ P.ways) : okWayB P.nm.length P.bx.length w := by rw [ok.nl]; exact ok.ways w m
def sp_own_rows : SpD := fun ds Q => ∃ (P : PB) (k : Nat), ds = [chB false P, .int k] ∧ okPB P ∧ k < P.es.length ∧ Q (.lst true ((ownT P k).map .str))
theorem len_own_rows : ∀ ds Q, sp_own_rows ds Q → ds.length = 2 := by rintro _ _ ⟨_, _, rfl, _⟩; rfl
theorem u_own_rows {P : PB} {k : Nat} {Q : D → Prop} (ok : okPB P) (h : k < P.es.length) (q : Q (.lst true ((ownT P k).map .str))) : sp_own_rows [chB false P, .int k] Q := ⟨P, k, rfl, ok, h, q⟩
theorem d_own_rows : ∀ ds Q, sp_own_rows ds Q → w_own_rows sp_deed_text sp_way_text { nx := fun _ => Q .non, rt := fun d _ => Q d } (env0 5 ds) := by
  rintro _ Q ⟨P, k, rfl, ok, h, q⟩
  have e1 : (Str.ofString "in ").length = 3 := by decide +kernel
  have e2 : (Str.ofString "out ").length = 4 := by decide +kernel
  have hi := ok.ins.2 _ (getD_mem (d := []) (show k < P.ins.length by rw [ok.ins.1]; exact h))
  have ho := ok.outs.2 _ (getD_mem (d := []) (show k < P.outs.length by rw [ok.outs.1]; exact h))
  have wl := ok.wl
  unfold ownT at q
  unfold w_own_rows
  have cI : ∀ {Q : D → Prop}, Q (.lst true (((P.ins.getD k []).map fun d => ("in " : Str) ++ deedT (bsP P) d).map .str)) → lc_ 3 (it_ (tTk (op2 dIx (un_ (dFld "ins") (v_ 0)) (v_ 1)))) yes_ (op2 dAddG (c_ (.str "in ")) (callD sp_deed_text (cons_ (v_ 0) (cons_ (v_ 3) nil_)))) [some (chB false P), some (.int k), none, none, none] Q := fun q => by
    refine lc_txt (xs := P.ins.getD k []) dD dD_inj (fun d => ("in " : Str) ++ deedT (bsP P) d) (fun Q q => ?_) (fun a m => ?_) (by rw [size_line]; omega) q
    · unfold chB
      walk_at "vc"
      refine ix_map (f := dsD) (xs := P.ins) [] (by omega) (by rw [ok.ins.1]; omega) ?_
      rw [Int.toNat_natCast]
      unfold dsD
      walk_at "vx"
      have nI : noOwnL ((P.ins.getD k []).map dD) = true := noOwnL_map dD noOwn_dD _
      rw [frzL_id _ nI]
      exact ⟨nI, q⟩
    · walk_at "vx"
      rw [frz_chB, frz_id _ (noOwn_dD a)]
      have := deedT_le (bsP_le ok) (hi.2 a m)
      exact u_deed_text ok (hi.2 a m) ⟨.inl rfl, by omega, rfl⟩
  have cO : ∀ {o : Option D} {Q : D → Prop}, Q (.lst true (((P.outs.getD k []).map fun d => ("out " : Str) ++ deedT (bsP P) d).map .str)) → lc_ 3 (it_ (tTk (op2 dIx (un_ (dFld "outs") (v_ 0)) (v_ 1)))) yes_ (op2 dAddG (c_ (.str "out ")) (callD sp_deed_text (cons_ (v_ 0) (cons_ (v_ 3) nil_)))) [some (chB false P), some (.int k), o, none, none] Q := fun q => by
    refine lc_txt (xs := P.outs.getD k []) dD dD_inj (fun d => ("out " : Str) ++ deedT (bsP P) d) (fun Q q => ?_) (fun a m => ?_) (by rw [size_line]; omega) q
    · unfold chB
      walk_at "vc"
      refine ix_map (f := dsD) (xs := P.outs) [] (by omega) (by rw [ok.outs.1]; omega) ?_
      rw [Int.toNat_natCast]
      unfold dsD
      walk_at "vx"
      have nI : noOwnL ((P.outs.getD k []).map dD) = true := noOwnL_map dD noOwn_dD _
      rw [frzL_id _ nI]
      exact ⟨nI, q⟩
    · walk_at "vx"
      rw [frz_chB, frz_id _ (noOwn_dD a)]
      have := deedT_le (bsP_le ok) (ho.2 a m)
      exact u_deed_text ok (ho.2 a m) ⟨.inl rfl, by omega, rfl⟩
  have cW : ∀ {o : Option D} {Q : D → Prop}, Q (.lst true (((P.ways.filter fun w => decide (w.src = (k : Int))).map (wayT (bsP P) P.nm)).map .str)) → lc_ 4 (it_ (tTk (un_ (dFld "ways") (v_ 0)))) (bl_ (op2 (dEq false) (op2 dIx (v_ 4) (c_ (.int 0))) (v_ 1))) (callD sp_way_text (cons_ (v_ 0) (cons_ (v_ 4) nil_))) [some (chB false P), some (.int k), o, none, none] Q := fun q => by
    refine lc_maps (xs := P.ways) wayD wayD_inj (fun Q q => ?_) (fun w => decide (w.src = (k : Int))) (fun w => .str (wayT (bsP P) P.nm w)) (fun w m => ?_) (fun w m _ => ?_) (by rw [size_line]; omega) (by rwa [List.map_map] at q)
    · unfold chB
      walk_at "vc"
      rw [frzL_way]
      exact ⟨noOwnL_way _, q⟩
    · rw [show wayD w = .tup [.int w.src, .str w.sign, .tup (w.asks.map askD2), dsD w.deeds, .int w.tgt, .str w.mode] from rfl]
      walk_at "vx"
    · walk_at "vx"
      rw [frz_chB, frz_id _ (noOwn_way w)]
      exact u_way_text ok (okP_w ok m) ⟨.inl rfl, rfl⟩
  refine sq_i ?_
  refine cI ?_
  refine sq_i ?_
  refine ⟨_, rfl, ?_⟩
  refine cO ?_
  refine ⟨noOwnL_str _, noOwnL_str _, by simp only [List.length_map]; rw [size_line]; omega, ?_⟩
  rw [← List.map_append]
  refine ⟨_, rfl, ?_⟩
  refine cW ?_
  refine ⟨noOwnL_str _, noOwnL_str _, ?_, ?_⟩
  · have := List.length_filter_le (fun w : Way => decide (w.src = (k : Int))) P.ways
    simp only [List.length_map, List.length_append]
    rw [size_line]; omega
  · rw [← List.map_append]
    exact q
-- needs: m_tree
def sp_above : SpD := fun ds Q => ∃ m ks es ss k, ds = [treeD m ks es ss, .int k] ∧ okE es ∧ es.length ≤ 150 ∧ 0 ≤ k ∧ k < es.length ∧ Q (lI true (aboveM es k))
theorem len_above : ∀ ds Q, sp_above ds Q → ds.length = 2 := by rintro _ _ ⟨_, _, _, _, _, rfl, _⟩; rfl
theorem d_above : ∀ ds Q, sp_above ds Q → w_above { nx := fun _ => Q .non, rt := fun d _ => Q d } (env0 4 ds) := by
  rintro _ Q ⟨m, ks, es, ss, k, rfl, ok, hl, h0, h1, q⟩
  unfold w_above
  refine sq_i ?_
  walk_at "vx"
  refine sq_i ?_
  walk_at "vt"
  refine ix_lI h0 h1 ⟨rfl, ?_⟩
  refine sq_i ?_
  have he := ok.int h0 h1
  refine ⟨fun env => ∃ (pre : List Int) (at_ : Int), env = [some (treeD m ks es ss), some (.int k), some (lI true pre), some (.int at_)] ∧ -1 ≤ at_ ∧ at_ < es.length ∧ pre ++ upM es at_ = aboveM es k ∧ (pre.length : Int) + at_ < 150,
    fun env => match env with | [_, _, _, some (.int a)] => (a + 1).toNat | _ => 0, ⟨[], _, rfl, he.1, (show elD es k < es.length by omega), rfl, (show (0 : Int) + elD es k < 150 by omega)⟩, ?_⟩
  rintro _ ⟨pre, at_, rfl, a0, a1, e, hp⟩
  walk_at "vx"
  refine ⟨fun hne => ?_, fun heq => ?_⟩
  · have h0' : 0 ≤ at_ := by omega
    have he := ok.int h0' a1
    refine sq_i ?_
    walk_at "vx"
    refine ⟨by omega, ?_⟩
    walk_at "vt"
    refine ix_lI h0' a1 ⟨rfl, ?_⟩
    refine ⟨⟨pre ++ [at_], elD es at_, by rw [lI_snoc]; rfl, he.1, by omega, ?_, by simp; omega⟩, ?_⟩
    · rw [← e, upM_step ok h0' a1, List.append_assoc]; rfl
    · show (elD es at_ + 1).toNat < (at_ + 1).toNat
      omega
  · subst heq
    rw [upM_neg, List.append_nil] at e
    subst e
    exact q
-- needs: m_tree
def sp_depth : SpD := fun ds Q => ∃ m ks es ss k, ds = [treeD m ks es ss, .int k] ∧ okE es ∧ es.length ≤ 150 ∧ 0 ≤ k ∧ k < es.length ∧ Q (.int (aboveM es k).length)
theorem len_depth : ∀ ds Q, sp_depth ds Q → ds.length = 2 := by rintro _ _ ⟨_, _, _, _, _, rfl, _⟩; rfl
theorem d_depth : ∀ ds Q, sp_depth ds Q → w_depth sp_above { nx := fun _ => Q .non, rt := fun d _ => Q d } (env0 2 ds) := by
  rintro _ Q ⟨m, ks, es, ss, k, rfl, ok, hl, h0, h1, q⟩
  unfold w_depth
  walk_at "vt"
  refine ⟨_, ks, es, ss, k, rfl, ok, hl, h0, h1, Or.inl (aloL_lI _), ?_⟩
  walk_at "vx"
  exact q
-- needs: term_text
theorem kd_len {P : PB} (ok : okPB P) {k : Nat} (hk : k < P.es.length) : (kdM P.ks k).length ≤ 4 := by
  have h : (Str.ofString "leaf").length = 4 ∧ (Str.ofString "all").length = 3 ∧ (Str.ofString "one").length = 3 := by decide +kernel
  rcases ok.kk.2 k hk with z | z
  · rw [z.2]; omega
  · rcases z.2 with z | z <;> rw [z] <;> omega
theorem ss_in {P : PB} (ok : okPB P) {k : Nat} (hk : k < P.es.length) (h : kdM P.ks k = "one") : 0 ≤ elD P.ss k ∧ elD P.ss k < P.es.length := by
  have := mem_innerM.mp ((ok.hs.2 k hk).1 h)
  exact ⟨this.1, this.2.1⟩
theorem moodT_le {P : PB} (ok : okPB P) {k : Nat} (hk : k < P.es.length) : (moodT P k).length ≤ 90 := by
  have e4 : (Str.ofString " ").length = 1 := by decide +kernel
  have h1 := kd_len ok hk
  have h2 := nmD_le (nmP_le ok) k
  have h3 := nmD_le (nmP_le ok) (elD P.ss k)
  unfold nmD at h2
  rw [Int.toNat_natCast] at h2
  unfold moodT
  split
  · rw [len_app, len_app, len_app, len_app]; omega
  · rw [len_app, len_app]; omega
def sp_mood_text : SpD := fun ds Q => ∃ (P : PB) (k : Nat), ds = [chB false P, .int k] ∧ okPB P ∧ k < P.es.length ∧ Q (.str (moodT P k))
theorem len_mood_text : ∀ ds Q, sp_mood_text ds Q → ds.length = 2 := by rintro _ _ ⟨_, _, rfl, _⟩; rfl
theorem u_mood_text {P : PB} {k : Nat} {Q : D → Prop} (ok : okPB P) (h : k < P.es.length) (q : Q (.str (moodT P k))) : sp_mood_text [chB false P, .int k] Q := ⟨P, k, rfl, ok, h, q⟩
theorem d_mood_text : ∀ ds Q, sp_mood_text ds Q → w_mood_text { nx := fun _ => Q .non, rt := fun d _ => Q d } (env0 3 ds) := by
  rintro _ Q ⟨P, k, rfl, ok, h, q⟩
  have e4 : (Str.ofString " ").length = 1 := by decide +kernel
  have h1 := kd_len ok h
  have h2 := nmD_le (nmP_le ok) k
  unfold nmD at h2
  rw [Int.toNat_natCast] at h2
  have nl := ok.nl
  have kl := ok.kk.1
  have sl := ok.hs.1
  unfold moodT at q
  unfold w_mood_text chB
  refine sq_i ?_
  walk_at "vc"
  refine ix_kd (by omega) ?_
  walk_at "vx"
  refine ⟨by omega, ix_map (f := D.str) (xs := P.nm) "" (by omega) (by omega) ?_⟩
  rw [Int.toNat_natCast]
  walk_at "vx"
  refine ⟨by rw [len_app]; omega, ?_⟩
  refine sq_i ?_
  walk_at "vc"
  refine ix_kd (by omega) ?_
  walk_at "wx"
  refine ⟨fun e => ?_, fun e => by rwa [if_neg e] at q⟩
  rw [if_pos e] at q
  obtain ⟨s0, s1⟩ := ss_in ok h e
  have h3 := nmD_le (nmP_le ok) (elD P.ss k)
  have eD : elD P.ss k = P.ss.getD k 0 := by unfold elD; rw [Int.toNat_natCast]
  rw [eD] at s0 s1 h3 q
  unfold nmD at h3 q
  refine ⟨by rw [len_app, len_app]; omega, ix_lN (by omega) (ix_map (f := D.str) (xs := P.nm) "" s0 (by omega) ?_)⟩
  walk_at "vx"
  exact ⟨by rw [len_app, len_app, len_app]; omega, q⟩
-- needs: mood_text own_rows
/-! ### rows of a text: how many, how long -/
theorem blT_len (P : PB) (k : Nat) : (blT P k).length = (aboveM P.es k).length := by
  unfold blT repS
  show (Array.size _) = _
  have : (Str.ofString " ").cps.toList = [32] := by decide +kernel
  rw [← Array.length_toList, this]
  generalize (aboveM P.es k).length = n
  induction n with
  | zero => rfl
  | succ n ih => rw [List.replicate_succ, List.flatten_cons]; simp at ih ⊢
theorem slen_app (xs ys : List Str) : ((xs ++ ys).map (·.length)).sum + (xs ++ ys).length = ((xs.map (·.length)).sum + xs.length) + ((ys.map (·.length)).sum + ys.length) := by
  rw [List.map_append, List.sum_append, List.length_append]; omega
theorem slen_le {xs : List Str} {c : Nat} (h : ∀ x ∈ xs, x.length ≤ c) : (xs.map (·.length)).sum + xs.length ≤ xs.length * (c + 1) := by
  induction xs with
  | nil => simp
  | cons x xs ih =>
    have := ih fun y m => h y (List.mem_cons_of_mem _ m)
    have hx := h x List.mem_cons_self
    rw [List.map_cons, List.sum_cons, List.length_cons, Nat.succ_mul]
    omega
theorem filt_step (ws : List Way) (n : Nat) : (ws.filter fun w => decide (0 ≤ w.src ∧ w.src < ((n + 1 : Nat) : Int))).length = (ws.filter fun w => decide (0 ≤ w.src ∧ w.src < (n : Int))).length + (ws.filter fun w => decide (w.src = (n : Int))).length := by
  induction ws with
  | nil => rfl
  | cons w ws ih =>
    simp only [List.filter_cons]
    by_cases h1 : 0 ≤ w.src ∧ w.src < (n : Int)
    · rw [decide_eq_true h1, decide_eq_true (show 0 ≤ w.src ∧ w.src < ((n + 1 : Nat) : Int) by omega), decide_eq_false (show ¬ w.src = (n : Int) by omega)]
      simp only [if_true, Bool.false_eq_true, if_false, List.length_cons]
      omega
    · by_cases h2 : w.src = (n : Int)
      · rw [decide_eq_false h1, decide_eq_true (show 0 ≤ w.src ∧ w.src < ((n + 1 : Nat) : Int) by omega), decide_eq_true h2]
        simp only [if_true, Bool.false_eq_true, if_false, List.length_cons]
        omega
      · rw [decide_eq_false h1, decide_eq_false (show ¬ (0 ≤ w.src ∧ w.src < ((n + 1 : Nat) : Int)) by omega), decide_eq_false h2]
        simp only [Bool.false_eq_true, if_false]
        exact ih
def slen (xs : List Str) : Nat := (xs.map (·.length)).sum + xs.length
theorem moodRows_le {P : PB} (ok : okPB P) {k : Nat} (hk : k < P.es.length) : slen (moodRows P k) ≤ 83 * 301 + (P.ways.filter fun w => decide (w.src = (k : Int))).length * 20101 := by
  have e4 : (Str.ofString " ").length = 1 := by decide +kernel
  have e1 : (Str.ofString "in ").length = 3 := by decide +kernel
  have e2 : (Str.ofString "out ").length = 4 := by decide +kernel
  have hd : (blT P k).length ≤ 12 := by rw [blT_len]; exact ok.tree.deep k hk
  have hm := moodT_le ok hk
  have hi := ok.ins.2 _ (getD_mem (d := []) (show k < P.ins.length by rw [ok.ins.1]; exact hk))
  have ho := ok.outs.2 _ (getD_mem (d := []) (show k < P.outs.length by rw [ok.outs.1]; exact hk))
  unfold slen moodRows ownT
  rw [List.map_append, List.map_append, ← List.singleton_append, slen_app, slen_app, slen_app]
  have s0 := slen_le (xs := [blT P k ++ moodT P k]) (c := 300) fun x m => by rw [List.mem_singleton.mp m, len_app]; omega
  have s1 := slen_le (xs := ((P.ins.getD k []).map fun d => ("in " : Str) ++ deedT (bsP P) d).map fun r => blT P k ++ " " ++ r) (c := 300) fun x m => by
    obtain ⟨r, mr, rfl⟩ := List.mem_map.mp m
    obtain ⟨d, md, rfl⟩ := List.mem_map.mp mr
    have := deedT_le (bsP_le ok) (hi.2 d md)
    rw [len_app, len_app, len_app]; omega
  have s2 := slen_le (xs := ((P.outs.getD k []).map fun d => ("out " : Str) ++ deedT (bsP P) d).map fun r => blT P k ++ " " ++ r) (c := 300) fun x m => by
    obtain ⟨r, mr, rfl⟩ := List.mem_map.mp m
    obtain ⟨d, md, rfl⟩ := List.mem_map.mp mr
    have := deedT_le (bsP_le ok) (ho.2 d md)
    rw [len_app, len_app, len_app]; omega
  have s3 := slen_le (xs := ((P.ways.filter fun w => decide (w.src = (k : Int))).map (wayT (bsP P) P.nm)).map fun r => blT P k ++ " " ++ r) (c := 20100) fun x m => by
    obtain ⟨r, mr, rfl⟩ := List.mem_map.mp m
    obtain ⟨w, mw, rfl⟩ := List.mem_map.mp mr
    have := wayT_le (bsP_le ok) (nmP_le ok) (okP_w ok (List.mem_filter.mp mw).1)
    rw [len_app, len_app]; omega
  simp only [List.length_map, List.length_singleton] at s0 s1 s2 s3 ⊢
  have h1 : (P.ins.getD k []).length * 301 ≤ 41 * 301 := Nat.mul_le_mul_right _ hi.1
  have h2 : (P.outs.getD k []).length * 301 ≤ 41 * 301 := Nat.mul_le_mul_right _ ho.1
  omega
theorem rowsT_le {P : PB} (ok : okPB P) : ∀ n : Nat, n ≤ P.es.length → slen (rowsT P n) ≤ 3 * 301 + n * (83 * 301) + (P.ways.filter fun w => decide (0 ≤ w.src ∧ w.src < (n : Int))).length * 20101
  | 0, _ => by
    have e0 : (Str.ofString "box ").length = 4 := by decide +kernel
    have e4 : (Str.ofString " ").length = 1 := by decide +kernel
    have := slen_le (xs := P.bx.map bxT) (c := 300) fun x m => by
      obtain ⟨b, mb, rfl⟩ := List.mem_map.mp m
      have h1 := (ok.bx b mb).1.2
      have h2 := okNb_len (ok.bx b mb).2
      unfold bxT
      rw [len_app, len_app, len_app]; omega
    have hb : (P.bx.map bxT).length * 301 ≤ 3 * 301 := Nat.mul_le_mul_right _ (by rw [List.length_map]; exact ok.bl)
    unfold slen rowsT
    rw [List.range_zero, List.flatMap_nil, List.append_nil]
    omega
  | n + 1, h => by
    have ih := rowsT_le ok n (by omega)
    have hm := moodRows_le ok (k := n) (by omega)
    have e : slen (rowsT P (n + 1)) = slen (rowsT P n) + slen (moodRows P n) := by rw [rowsT_succ]; exact slen_app _ _
    rw [e, filt_step, Nat.add_mul, Nat.succ_mul]
    omega
theorem rowsT_all {P : PB} (ok : okPB P) {n : Nat} (h : n ≤ P.es.length) : slen (rowsT P n) ≤ 2000000 := by
  have h1 := rowsT_le ok n h
  have h2 := ok.many
  have h3 := ok.wl
  have h4 : (P.ways.filter fun w => decide (0 ≤ w.src ∧ w.src < (n : Int))).length ≤ P.ways.length := List.length_filter_le _ _
  have h5 : n * (83 * 301) ≤ 41 * (83 * 301) := Nat.mul_le_mul_right _ (by omega)
  have h6 : (P.ways.filter fun w => decide (0 ≤ w.src ∧ w.src < (n : Int))).length * 20101 ≤ 41 * 20101 := Nat.mul_le_mul_right _ (by omega)
  omega
theorem rows_len {P : PB} (ok : okPB P) {n : Nat} (h : n ≤ P.es.length) : (rowsT P n).length ≤ 2000000 := by
  have := rowsT_all ok h
  unfold slen at this
  omega
-- needs: L_chart_by
/-! ### the chart of parts, folded -/
section
variable (m : Bool) (P : PB) (Q : D → Prop)
theorem fB_boxes : dFld "boxes" (chB m P) Q = Q (.lst m (P.bx.map bxP)) := cfld_boxes ..
theorem fB_names : dFld "names" (chB m P) Q = Q (.lst m (P.nm.map .str)) := cfld_names ..
theorem fB_tree : dFld "tree" (chB m P) Q = Q (treeD m P.ks P.es P.ss) := cfld_tree ..
theorem fB_ins : dFld "ins" (chB m P) Q = Q (.lst m (P.ins.map dsD)) := cfld_ins ..
theorem fB_outs : dFld "outs" (chB m P) Q = Q (.lst m (P.outs.map dsD)) := cfld_outs ..
theorem fB_ways : dFld "ways" (chB m P) Q = Q (.lst m (P.ways.map wayD)) := cfld_ways ..
end
theorem noOwn_chB (P : PB) : noOwn (chB false P) = true := by
  have := frz_noOwn (chB false P)
  rwa [frz_chB] at this
local macro_rules | `(tactic| walk_at "vB") => `(tactic| repeat (first | simp only [fB_boxes, fB_names, fB_tree, fB_ins, fB_outs, fB_ways, frz_chB, noOwn_chB, alo_chB, fld_kinds, fld_elders, fld_starts, frz_tree, alo_tree, noOwn_tree] | walk_at "vx"))
-- needs: m_text2 depth m_chB
theorem u_depth_t {m : Bool} {ks : List Str} {es ss : List Int} {k : Int} {Q : D → Prop} (ok : okE es) (hl : es.length ≤ 150) (h0 : 0 ≤ k) (h1 : k < es.length) (q : Q (.int (aboveM es k).length)) : sp_depth [treeD m ks es ss, .int k] Q := ⟨m, ks, es, ss, k, rfl, ok, hl, h0, h1, q⟩
def shownT (P : PB) : Str := Txt.join "\n" (rowsT P P.es.length)
def sp_shown : SpD := fun ds Q => ∃ (P : PB), ds = [chB false P] ∧ okPB P ∧ Q (.str (shownT P))
theorem len_shown : ∀ ds Q, sp_shown ds Q → ds.length = 1 := by rintro _ _ ⟨_, rfl, _⟩; rfl
theorem u_shown {P : PB} {Q : D → Prop} (ok : okPB P) (q : Q (.str (shownT P))) : sp_shown [chB false P] Q := ⟨P, rfl, ok, q⟩
theorem bxP_inj : ∀ a b, bxP a = bxP b → a = b := by
  intro a b h
  have h := D.tup.inj h
  simp only [List.cons.injEq, D.int.injEq, D.str.injEq, and_true] at h
  exact Prod.ext h.1 h.2
theorem bxT_len {P : PB} (ok : okPB P) {b : Str × Int} (m : b ∈ P.bx) : b.1.length ≤ 40 ∧ (txI b.2).length ≤ 61 ∧ b.2.natAbs.log2 < 1920 := ⟨(ok.bx b m).1.2, okNb_len (ok.bx b m).2, txI_lim (ok.bx b m).2⟩
theorem d_shown : ∀ ds Q, sp_shown ds Q → w_shown sp_depth sp_mood_text sp_own_rows { nx := fun _ => Q .non, rt := fun d _ => Q d } (env0 6 ds) := by
  rintro _ Q ⟨P, rfl, ok, q⟩
  have e0 : (Str.ofString "box ").length = 4 := by decide +kernel
  have e4 : (Str.ofString " ").length = 1 := by decide +kernel
  have hb := ok.bl
  have hmany := ok.many
  have nl := ok.nl
  unfold w_shown
  refine sq_i ?_
  refine lc_txt (xs := P.bx) bxP bxP_inj bxT (fun Q q => ?_) (fun b m => ?_) (by rw [size_line]; omega) ?_
  · walk_at "vB"
    rw [frzL_bxP]
    exact ⟨noOwnL_map bxP noOwn_bxP _, q⟩
  · have h := bxT_len ok m
    unfold txI at h
    unfold bxP
    walk_at "vx"
    exact ⟨by omega, by rw [len_app]; omega, h.2.2, by rw [len_app, len_app]; omega, rfl⟩
  refine sq_i ?_
  refine for_rng1 (j := (P.es.length : Int)) (fun Q q => by walk_at "vB"; rw [nl]; exact q) (by omega) (by omega)
    (fun k env => k ≤ P.es.length ∧ ∃ o2 o3 o4 o5, env = [some (chB false P), some (.lst true ((rowsT P k).map .str)), o2, o3, o4, o5]) ⟨Nat.zero_le _, _, _, _, _, by unfold rowsT; rw [List.range_zero, List.flatMap_nil, List.append_nil]; rfl⟩ ?_ ?_
  · rintro k _ hk ⟨_, o2, o3, o4, o5, rfl⟩
    have hk : k < P.es.length := by omega
    have hrl := rows_len ok (n := k) (by omega)
    have hdp := ok.tree.deep k hk
    refine sq_i ?_
    walk_at "vB"
    refine u_depth_t ok.tree.ok (by omega) (by omega) (by omega) ⟨by omega, by omega, by rw [show (Str.ofString " ").length = 1 from e4]; omega, ?_⟩
    rw [Int.toNat_natCast, show repS (Str.ofString " ") (aboveM P.es k).length = blT P k from rfl]
    have hbl : (blT P k).length ≤ 12 := by rw [blT_len]; exact hdp
    refine sq_i ?_
    walk_at "vx"
    have hmt := moodT_le ok hk
    refine ⟨by omega, ?_⟩
    walk_at "vB"
    refine u_mood_text ok hk ⟨by omega, ?_⟩
    have hown : ∀ r ∈ ownT P k, r.length ≤ 20010 := fun r mr => by
      have e1 : (Str.ofString "in ").length = 3 := by decide +kernel
      have e2 : (Str.ofString "out ").length = 4 := by decide +kernel
      have hi := ok.ins.2 _ (getD_mem (d := []) (show k < P.ins.length by rw [ok.ins.1]; exact hk))
      have ho := ok.outs.2 _ (getD_mem (d := []) (show k < P.outs.length by rw [ok.outs.1]; exact hk))
      unfold ownT at mr
      rcases List.mem_append.mp mr with mr | mr
      · rcases List.mem_append.mp mr with mr | mr
        · obtain ⟨d, md, rfl⟩ := List.mem_map.mp mr
          have := deedT_le (bsP_le ok) (hi.2 d md)
          rw [len_app]; omega
        · obtain ⟨d, md, rfl⟩ := List.mem_map.mp mr
          have := deedT_le (bsP_le ok) (ho.2 d md)
          rw [len_app]; omega
      · obtain ⟨w, mw, rfl⟩ := List.mem_map.mp mr
        have := wayT_le (bsP_le ok) (nmP_le ok) (okP_w ok (List.mem_filter.mp mw).1)
        omega
    have hcnt : (ownT P k).length ≤ 123 := by
      have hi := ok.ins.2 _ (getD_mem (d := []) (show k < P.ins.length by rw [ok.ins.1]; exact hk))
      have ho := ok.outs.2 _ (getD_mem (d := []) (show k < P.outs.length by rw [ok.outs.1]; exact hk))
      have hw := List.length_filter_le (fun w : Way => decide (w.src = (k : Int))) P.ways
      have wl := ok.wl
      unfold ownT
      simp only [List.length_append, List.length_map]
      omega
    refine for_pre D.str (xs := ownT P k) (fun Q q => ?_) (fun pre env => ∃ o2 o5, env = [some (chB false P), some (.lst true ((rowsT P k ++ (blT P k ++ moodT P k) :: pre.map fun r => blT P k ++ " " ++ r).map .str)), o2, some (.int k), some (.str (blT P k)), o5]) ?_ ?_ ?_
    · walk_at "vB"
      refine u_own_rows ok hk ?_
      show Q (frzL ((ownT P k).map D.str))
      rw [frzL_str]
      exact q
    · exact ⟨_, _, by rw [List.map_append]; rfl⟩
    · rintro pre r post _ e ⟨o2, o5, rfl⟩
      have hr := hown r (by rw [e]; simp)
      have hpl : pre.length ≤ 123 := by have : (ownT P k).length = pre.length + (post.length + 1) := by rw [e]; simp
                                        omega
      walk_at "vx"
      refine ⟨by simp only [List.length_append, List.length_cons, List.length_map]; omega, by omega, by rw [len_app]; omega, o2, some (.str r), ?_⟩
      simp only [List.map_append, List.map_cons, List.append_assoc, List.cons_append, List.map_nil]
    · rintro _ ⟨o2, o5, rfl⟩
      exact ⟨hk, _, _, _, _, by rw [rowsT_succ]; rfl⟩
  · rintro _ ⟨_, o2, o3, o4, o5, rfl⟩
    have := rowsT_all ok (Nat.le_refl _)
    unfold slen at this
    walk_at "vx"
    rw [Int.toNat_natCast] at *
    refine ⟨_, .inl rfl, ?_, q⟩
    rw [show (Str.ofString "\n").length = 1 by decide +kernel]
    omega
-- needs: m_text
theorem txI_neg {x : Int} (h : x < 0) : txI x = ("-" : Str) ++ txI (-x) := by
  obtain ⟨n, rfl⟩ : ∃ n : Nat, x = Int.negSucc n := ⟨(-x - 1).toNat, by omega⟩
  have e : toString (Int.negSucc n) = "-" ++ toString (-(Int.negSucc n)) := rfl
  unfold txI
  rw [e]
  apply Str.ext'
  apply Array.toList_inj.mp
  rw [show (Str.ofString "-" ++ Str.ofString (toString (-(Int.negSucc n)))).cps = (Str.ofString "-").cps ++ (Str.ofString (toString (-(Int.negSucc n)))).cps from rfl, Array.toList_append]
  rw [PyProof.Rows.signs_ofString, PyProof.Rows.signs_ofString, PyProof.Rows.signs_ofString, String.toList_append, List.map_append]
def sp_L_term_text : SpD := fun ds Q => ∃ (m : Bool) (bs : List Str) (t : Int × Int), ds = [.lst m (bs.map .str), tD t.1 t.2] ∧ (∀ s ∈ bs, s.length ≤ 40) ∧ okTmB bs.length t ∧ Q (.str (termT bs t))
theorem len_L_term_text : ∀ ds Q, sp_L_term_text ds Q → ds.length = 2 := by rintro _ _ ⟨_, _, _, rfl, _⟩; rfl
theorem u_L_term_text {m : Bool} {bs : List Str} {t : Int × Int} {Q : D → Prop} (ok : ∀ s ∈ bs, s.length ≤ 40) (h : okTmB bs.length t) (q : Q (.str (termT bs t))) : sp_L_term_text [.lst m (bs.map .str), tD t.1 t.2] Q := ⟨m, bs, t, rfl, ok, h, q⟩
theorem d_L_term_text : ∀ ds Q, sp_L_term_text ds Q → w_L_term_text { nx := fun _ => Q .non, rt := fun d _ => Q d } (env0 3 ds) := by
  rintro _ Q ⟨m, bs, t, rfl, ok, h, q⟩
  have e : (Str.ofString "+").length = 1 := by decide +kernel
  have e2 : (Str.ofString "-").length = 1 := by decide +kernel
  have hx := okNb_len h.2
  have hn := nmD_le ok t.1
  unfold termT at q
  unfold w_L_term_text tD
  refine sq_i ?_
  walk_at "vx"
  refine ⟨fun e1 => ⟨txI_log (okNb_far h.2), by rwa [if_pos e1] at q⟩, fun e1 => ?_⟩
  have h1 := h.1.resolve_left e1
  rw [if_neg e1] at q
  refine sq_i ?_
  walk_at "vx"
  refine ix_map (f := D.str) (xs := bs) "" h1.1 h1.2 ?_
  walk_at "vx"
  refine sq_i ?_
  walk_at "vx"
  rw [show (bs.getD t.1.toNat (Str.ofString "")) = nmD bs t.1 from rfl]
  refine ⟨fun hz => ?_, fun hz => ?_⟩
  · rw [if_neg (by omega), if_neg (by omega)] at q
    exact q
  by_cases hp : 0 < t.2
  · rw [if_pos hp] at q
    unfold txI at q hx
    rw [if_pos hp, if_neg (show ¬ t.2 < 0 by omega)]
    refine ⟨_, rfl, ?_⟩
    walk_at "vx"
    exact ⟨by omega, txI_log (okNb_far h.2), by rw [len_app]; omega, q⟩
  · have hneg : t.2 < 0 := by omega
    rw [if_neg hp, if_pos hneg, txI_neg hneg] at q
    have hf : okFar (-t.2) := by have := okNb_far h.2; unfold okFar at *; omega
    have hx2 := txI_len hf
    unfold txI at q hx2
    rw [if_neg hp, if_pos hneg]
    refine ⟨_, rfl, ?_⟩
    walk_at "vx"
    refine ⟨by omega, txI_log hf, by rw [len_app]; omega, ?_⟩
    rw [Str.append_assoc]
    exact q
-- needs: L_term_text
def sp_L_deed_text : SpD := fun ds Q => ∃ (m : Bool) (bs : List Str) (d : Deed), ds = [.lst m (bs.map .str), dD d] ∧ (∀ s ∈ bs, s.length ≤ 40) ∧ okDeB bs.length d ∧ Q (.str (deedT bs d))
theorem len_L_deed_text : ∀ ds Q, sp_L_deed_text ds Q → ds.length = 2 := by rintro _ _ ⟨_, _, _, rfl, _⟩; rfl
theorem u_L_deed_text {m : Bool} {bs : List Str} {d : Deed} {Q : D → Prop} (ok : ∀ s ∈ bs, s.length ≤ 40) (h : okDeB bs.length d) (q : Q (.str (deedT bs d))) : sp_L_deed_text [.lst m (bs.map .str), dD d] Q := ⟨m, bs, d, rfl, ok, h, q⟩
theorem frz_tD2 (t : Int × Int) : frz (tD t.1 t.2) = tD t.1 t.2 := rfl
theorem sp_put : (Str.ofString "put" ++ Str.ofString " ") = Str.ofString "put " ∧ (Str.ofString "say" ++ Str.ofString " ") = Str.ofString "say " := by decide +kernel
theorem d_L_deed_text : ∀ ds Q, sp_L_deed_text ds Q → w_L_deed_text sp_L_term_text { nx := fun _ => Q .non, rt := fun d _ => Q d } (env0 3 ds) := by
  rintro _ Q ⟨m, bs, d, rfl, ok, h, q⟩
  have e1 : (Str.ofString "put").length = 3 := by decide +kernel
  have e2 : (Str.ofString "call ").length = 5 := by decide +kernel
  have e3 : (Str.ofString "say").length = 3 := by decide +kernel
  have e4 : (Str.ofString " ").length = 1 := by decide +kernel
  unfold w_L_deed_text
  cases d with
  | put b t =>
    have hb := nmD_le ok b
    have ht := termT_le ok h.2.2
    unfold nmD at hb
    unfold dD
    refine sq_i ?_
    walk_at "vx"
    refine sF (by decide +kernel) ?_
    refine sq_i ?_
    walk_at "vx"
    refine sq_i ?_
    walk_at "vx"
    refine ix_map (f := D.str) (xs := bs) "" h.1.1 h.1.2 ?_
    walk_at "vx"
    simp only [frzL_str]
    rw [frz_tD2]
    refine ⟨by omega, by rw [len_app]; omega, by rw [len_app, len_app]; omega, u_L_term_text ok h.2 ⟨.inl rfl, by rw [len_app, len_app, len_app]; omega, ?_⟩⟩
    rw [sp_put.1]
    exact q
  | call n =>
    have hb := h.2
    unfold dD
    refine sq_i ?_
    walk_at "vx"
    exact ⟨by omega, q⟩
  | say n t =>
    have hb := h.1.2
    have ht := termT_le ok h.2.2
    unfold dD
    refine sq_i ?_
    walk_at "vx"
    refine sF (by decide +kernel) ?_
    refine sq_i ?_
    walk_at "vx"
    refine sq_i ?_
    walk_at "vx"
    refine sF (by decide +kernel) ?_
    simp only [frzL_str]
    rw [frz_tD2]
    refine ⟨by omega, by rw [len_app]; omega, by rw [len_app, len_app]; omega, u_L_term_text ok h.2 ⟨.inl rfl, by rw [len_app, len_app, len_app]; omega, ?_⟩⟩
    rw [sp_put.2]
    exact q
-- needs: L_term_text
def sp_L_ask_text : SpD := fun ds Q => ∃ (m m2 : Bool) (bs nm : List Str) (a : Ask), ds = [.lst m (bs.map .str), .lst m2 (nm.map .str), askD2 a] ∧ (∀ s ∈ bs, s.length ≤ 40) ∧ (∀ s ∈ nm, s.length ≤ 40) ∧ okAskB nm.length bs.length a ∧ Q (.str (askT bs nm a))
theorem len_L_ask_text : ∀ ds Q, sp_L_ask_text ds Q → ds.length = 3 := by rintro _ _ ⟨_, _, _, _, _, rfl, _⟩; rfl
theorem u_L_ask_text {m m2 : Bool} {bs nm : List Str} {a : Ask} {Q : D → Prop} (ok : ∀ s ∈ bs, s.length ≤ 40) (ok2 : ∀ s ∈ nm, s.length ≤ 40) (h : okAskB nm.length bs.length a) (q : Q (.str (askT bs nm a))) : sp_L_ask_text [.lst m (bs.map .str), .lst m2 (nm.map .str), askD2 a] Q := ⟨m, m2, bs, nm, a, rfl, ok, ok2, h, q⟩
theorem d_L_ask_text : ∀ ds Q, sp_L_ask_text ds Q → w_L_ask_text sp_L_term_text { nx := fun _ => Q .non, rt := fun d _ => Q d } (env0 3 ds) := by
  rintro _ Q ⟨m, m2, bs, nm, a, rfl, ok, ok2, h, q⟩
  have e1 : (Str.ofString "open").length = 4 := by decide +kernel
  have e2 : (Str.ofString "shut").length = 4 := by decide +kernel
  have e4 : (Str.ofString " ").length = 1 := by decide +kernel
  unfold w_L_ask_text
  cases a with
  | op b k =>
    have hk := nmD_le ok2 k
    unfold nmD at hk
    unfold askD2
    refine sq_i ?_
    walk_at "vx"
    refine ⟨?_, ix_map (f := D.str) (xs := nm) "" h.1 h.2 ?_⟩
    · cases b
      · show (Str.ofString "shut").length + _ ≤ _
        omega
      · show (Str.ofString "open").length + _ ≤ _
        omega
    · walk_at "vx"
      refine ⟨?_, q⟩
      cases b
      · show (Str.ofString "shut" ++ Str.ofString " ").length + _ ≤ _
        rw [len_app]; omega
      · show (Str.ofString "open" ++ Str.ofString " ").length + _ ≤ _
        rw [len_app]; omega
  | nu mk x y =>
    have h1 := termT_le ok h.1.2
    have h2 := termT_le ok h.2.2
    have h3 : (mS mk).length ≤ 2 := by cases mk <;> decide +kernel
    unfold askD2
    refine sq_i ?_
    walk_at "vx"
    simp only [frzL_str]
    rw [show frz (tD x.1 x.2) = tD x.1 x.2 from rfl, show frz (tD y.1 y.2) = tD y.1 y.2 from rfl]
    refine u_L_term_text ok h.1 ⟨.inl rfl, by omega, by rw [len_app]; omega, by rw [len_app, len_app]; omega, u_L_term_text ok h.2 ⟨.inl rfl, by rw [len_app, len_app, len_app]; omega, q⟩⟩
-- needs: L_ask_text L_deed_text m_mode
theorem chainT_snoc (sep : Str) : ∀ (xs : List Str) (first r x : Str), chainT first sep (xs ++ [x]) r = chainT first sep xs r ++ (if xs = [] then first else sep) ++ x := by
  intro xs
  induction xs with
  | nil => intro first r x; rfl
  | cons y ys ih =>
    intro first r x
    show chainT sep sep (ys ++ [x]) (r ++ first ++ y) = chainT sep sep ys (r ++ first ++ y) ++ _ ++ x
    rw [ih, ite_self, if_neg (by simp)]
def sp_L_way_text : SpD := fun ds Q => ∃ (m m2 : Bool) (bs nm : List Str) (w : Way), ds = [.lst m (bs.map .str), .lst m2 (nm.map .str), wayD w] ∧ (∀ s ∈ bs, s.length ≤ 40) ∧ (∀ s ∈ nm, s.length ≤ 40) ∧ okWayB nm.length bs.length w ∧ Q (.str (wayT bs nm w))
theorem len_L_way_text : ∀ ds Q, sp_L_way_text ds Q → ds.length = 3 := by rintro _ _ ⟨_, _, _, _, _, rfl, _⟩; rfl
theorem u_L_way_text {m m2 : Bool} {bs nm : List Str} {w : Way} {Q : D → Prop} (ok : ∀ s ∈ bs, s.length ≤ 40) (ok2 : ∀ s ∈ nm, s.length ≤ 40) (h : okWayB nm.length bs.length w) (q : Q (.str (wayT bs nm w))) : sp_L_way_text [.lst m (bs.map .str), .lst m2 (nm.map .str), wayD w] Q := ⟨m, m2, bs, nm, w, rfl, ok, ok2, h, q⟩
theorem d_L_way_text : ∀ ds Q, sp_L_way_text ds Q → w_L_way_text sp_L_ask_text sp_L_deed_text { nx := fun _ => Q .non, rt := fun d _ => Q d } (env0 7 ds) := by
  rintro _ Q ⟨m, m2, bs, nm, w, rfl, ok, ok2, h, q⟩
  have e1 : (Str.ofString "on ").length = 3 := by decide +kernel
  have e2 : (Str.ofString " to ").length = 4 := by decide +kernel
  have e4 : (Str.ofString " ").length = 1 := by decide +kernel
  have ea : (Str.ofString " if ").length = 4 := by decide +kernel
  have eb : (Str.ofString " do ").length = 4 := by decide +kernel
  have ec : (Str.ofString " and ").length = 5 := by decide +kernel
  have ed : (Str.ofString " then ").length = 6 := by decide +kernel
  have hs := h.sign.2
  have ha := h.asks.1
  have hd := h.deeds.1
  have nA : noOwnL (w.asks.map askD2) = true := noOwnL_map askD2 noOwn_ask _
  have nD : noOwnL (w.deeds.map dD) = true := noOwnL_map dD noOwn_dD _
  have nS : noOwnL (nm.map .str) = true := noOwnL_str _
  have hl0 : (Str.ofString "on " ++ w.sign).length ≤ 43 := by rw [len_app]; omega
  have chA : ∀ pre : List Ask, (∀ a ∈ pre, a ∈ w.asks) → pre.length ≤ 41 → (chainT " if " " and " (pre.map (askT bs nm)) (Str.ofString "on " ++ w.sign)).length ≤ 43 + 41 * 218 := fun pre hp hl => by
    have := chainT_le (first := " if ") (sep := " and ") (c := 210) (by decide +kernel) (by decide +kernel) (pre.map (askT bs nm)) (Str.ofString "on " ++ w.sign) fun x m => by
      obtain ⟨a, ma, rfl⟩ := List.mem_map.mp m
      exact askT_le ok ok2 (h.asks.2 a (hp a ma))
    rw [List.length_map] at this
    have : pre.length * (210 + 8) ≤ 41 * 218 := Nat.mul_le_mul_right _ hl
    omega
  unfold w_L_way_text
  refine sq_i ?_
  rw [show wayD w = .tup [.int w.src, .str w.sign, .tup (w.asks.map askD2), dsD w.deeds, .int w.tgt, .str w.mode] from rfl]
  walk_at "vx"
  refine ⟨by omega, ?_⟩
  refine sq_i ?_
  walk_at "vx"
  refine sq_i ?_
  refine for_pre askD2 (xs := w.asks) (fun Q q => by walk_at "vx"; rw [frzL_id _ nA]; exact ⟨nA, q⟩)
    (fun pre env => ∃ o5 o6, env = [some (.lst m (bs.map .str)), some (.lst m2 (nm.map .str)), some (.tup [.int w.src, .str w.sign, .tup (w.asks.map askD2), dsD w.deeds, .int w.tgt, .str w.mode]), some (.str (chainT " if " " and " (pre.map (askT bs nm)) (Str.ofString "on " ++ w.sign))), some (.str (if pre = [] then " if " else " and ")), o5, o6]) ⟨_, _, rfl⟩ ?_ ?_
  · rintro pre a post _ e ⟨o5, o6, rfl⟩
    have ma : a ∈ w.asks := by rw [e]; simp
    have hpl : pre.length ≤ 41 := by have : w.asks.length = pre.length + (post.length + 1) := by rw [e]; simp
                                     omega
    have l1 := chA pre (fun x m => by rw [e]; exact List.mem_append_left _ m) hpl
    have l2 := askT_le ok ok2 (h.asks.2 a ma)
    have l3 : (if pre = [] then Str.ofString " if " else Str.ofString " and ").length ≤ 5 := by split <;> omega
    refine sq_i ?_
    walk_at "vx"
    simp only [frzL_str]
    rw [frz_id _ (noOwn_ask a)]
    refine ⟨by omega, u_L_ask_text ok ok2 (h.asks.2 a ma) ⟨.inl rfl, by rw [len_app]; omega, ?_⟩⟩
    rw [List.map_append, show [a].map (askT bs nm) = [askT bs nm a] from rfl, chainT_snoc, if_neg (show ¬ (pre ++ [a] = []) by simp)]
    simp only [List.map_eq_nil_iff]
    exact ⟨_, _, rfl⟩
  rintro _ ⟨o5, o6, rfl⟩
  have l1 := chA w.asks (fun x m => m) ha
  unfold wayT at q
  simp only [] at q
  generalize chainT " if " " and " (w.asks.map (askT bs nm)) (Str.ofString "on " ++ w.sign) = r1 at l1 q
  have chD : ∀ pre : List Deed, (∀ a ∈ pre, a ∈ w.deeds) → pre.length ≤ 41 → (chainT " do " " then " (pre.map (deedT bs)) r1).length ≤ 43 + 41 * 218 + 41 * 158 := fun pre hp hl => by
    have := chainT_le (first := " do ") (sep := " then ") (c := 150) (by decide +kernel) (by decide +kernel) (pre.map (deedT bs)) r1 fun x m => by
      obtain ⟨a, ma, rfl⟩ := List.mem_map.mp m
      exact deedT_le ok (h.deeds.2 a (hp a ma))
    rw [List.length_map] at this
    have : pre.length * (150 + 8) ≤ 41 * 158 := Nat.mul_le_mul_right _ hl
    omega
  refine sq_i ?_
  walk_at "vx"
  refine sq_i ?_
  refine for_pre dD (xs := w.deeds) (fun Q q => by unfold dsD; walk_at "vx"; rw [frzL_id _ nD]; exact ⟨nD, q⟩)
    (fun pre env => ∃ o5 o6, env = [some (.lst m (bs.map .str)), some (.lst m2 (nm.map .str)), some (.tup [.int w.src, .str w.sign, .tup (w.asks.map askD2), dsD w.deeds, .int w.tgt, .str w.mode]), some (.str (chainT " do " " then " (pre.map (deedT bs)) r1)), some (.str (if pre = [] then " do " else " then ")), o5, o6]) ⟨_, _, rfl⟩ ?_ ?_
  · rintro pre a post _ e ⟨o5, o6, rfl⟩
    have ma : a ∈ w.deeds := by rw [e]; simp
    have hpl : pre.length ≤ 41 := by have : w.deeds.length = pre.length + (post.length + 1) := by rw [e]; simp
                                     omega
    have l1 := chD pre (fun x m => by rw [e]; exact List.mem_append_left _ m) hpl
    have l2 := deedT_le ok (h.deeds.2 a ma)
    have l3 : (if pre = [] then Str.ofString " do " else Str.ofString " then ").length ≤ 6 := by split <;> omega
    refine sq_i ?_
    walk_at "vx"
    simp only [frzL_str]
    rw [frz_id _ (noOwn_dD a)]
    refine ⟨by omega, u_L_deed_text ok (h.deeds.2 a ma) ⟨.inl rfl, by rw [len_app]; omega, ?_⟩⟩
    rw [List.map_append, show [a].map (deedT bs) = [deedT bs a] from rfl, chainT_snoc, if_neg (show ¬ (pre ++ [a] = []) by simp)]
    simp only [List.map_eq_nil_iff]
    exact ⟨_, _, rfl⟩
  rintro _ ⟨o5, o6, rfl⟩
  have l1 := chD w.deeds (fun x m => m) hd
  generalize chainT " do " " then " (w.deeds.map (deedT bs)) r1 = r2 at l1 q
  have hk := nmD_le ok2 w.tgt
  unfold nmD at q hk
  refine sq_i ?_
  walk_at "vx"
  refine ⟨fun e => by rwa [if_pos e] at q, fun e => ?_⟩
  rw [if_neg e] at q
  have ht := h.tgt.resolve_left fun z => e z.1
  walk_at "wx"
  refine ⟨by omega, ix_map (f := D.str) (xs := nm) "" ht.1 ht.2.1 ?_⟩
  walk_at "vx"
  have hf : (Str.ofString " far").length = 4 ∧ (Str.ofString " near").length = 5 ∧ (Str.ofString "").length = 0 := by decide +kernel
  have hi : (([Str.ofString "new", Str.ofString "near", Str.ofString "far"] : List Str).idxOf (Str.ofString "new") = 0) ∧ (([Str.ofString "new", Str.ofString "near", Str.ofString "far"] : List Str).idxOf (Str.ofString "near") = 1) ∧ (([Str.ofString "new", Str.ofString "near", Str.ofString "far"] : List Str).idxOf (Str.ofString "far") = 2) := by decide +kernel
  have hn : Str.ofString "near" ≠ Str.ofString "new" ∧ Str.ofString "far" ≠ Str.ofString "new" ∧ (Str.ofString " " ++ Str.ofString "near" = Str.ofString " near") ∧ (Str.ofString " " ++ Str.ofString "far" = Str.ofString " far") := by decide +kernel
  refine ⟨by rw [len_app]; omega, true, [Str.ofString "new", Str.ofString "near", Str.ofString "far"], ⟨rfl, rfl⟩, w.mode, rfl, ?_, ?_⟩
  · rcases ht.2.2 with e | e | e <;> rw [e] <;> simp
  · rcases ht.2.2 with e | e | e
    · rw [e, if_pos rfl] at q
      rw [e, hi.1]
      refine ⟨_, rfl, ?_⟩
      walk_at "vx"
      refine ⟨by rw [len_app, len_app]; omega, ?_⟩
      rw [show Str.ofString "" = Str.empty by decide +kernel, Str.append_empty]
      exact q
    · rw [e, if_neg hn.1] at q
      rw [e, hi.2.1]
      refine ⟨_, rfl, ?_⟩
      walk_at "vx"
      refine ⟨by rw [len_app, len_app]; omega, ?_⟩
      rw [Str.append_assoc, hn.2.2.1] at q
      exact q
    · rw [e, if_neg hn.2.1] at q
      rw [e, hi.2.2]
      refine ⟨_, rfl, ?_⟩
      walk_at "vx"
      refine ⟨by rw [len_app, len_app]; omega, ?_⟩
      rw [Str.append_assoc, hn.2.2.2] at q
      exact q
-- needs: m_text2 L_way_text L_chain u_cc shown
def sp_L_rows_2 : SpD := fun ds Q => ∃ (P : PB), ds = [.lst false (pbL P), .lst false ((bsP P).map .str)] ∧ okPB P ∧ Q (.lst true ((rowsT P P.es.length).map .str))
theorem len_L_rows_2 : ∀ ds Q, sp_L_rows_2 ds Q → ds.length = 2 := by rintro _ _ ⟨_, rfl, _⟩; rfl
theorem u_L_rows_2 {P : PB} {Q : D → Prop} (ok : okPB P) (q : Q (.lst true ((rowsT P P.es.length).map .str))) : sp_L_rows_2 [.lst false (pbL P), .lst false ((bsP P).map .str)] Q := ⟨P, rfl, ok, q⟩
theorem d_L_rows_2 : ∀ ds Q, sp_L_rows_2 ds Q → w_L_rows_2 sp_L_chain sp_L_deed_text sp_L_way_text { nx := fun _ => Q .non, rt := fun d _ => Q d } (env0 10 ds) := by
  rintro _ Q ⟨P, rfl, ok, q⟩
  have e0 : (Str.ofString "box ").length = 4 := by decide +kernel
  have e4 : (Str.ofString " ").length = 1 := by decide +kernel
  have e1 : (Str.ofString " in ").length = 4 := by decide +kernel
  have e2 : (Str.ofString " out ").length = 5 := by decide +kernel
  have hb := ok.bl
  have hmany := ok.many
  have nl := ok.nl
  have kl := ok.kk.1
  have sl := ok.hs.1
  unfold w_L_rows_2
  have pb : ∀ {o1 : Option D} {r : List (Option D)}, True := trivial
  unfold pbL
  refine sq_i ?_
  walk_at "vx"
  refine ⟨noOwnL_str _, ?_⟩
  refine sq_i ?_
  refine lc_txt (xs := P.bx) bxP bxP_inj bxT (fun Q q => ?_) (fun b m => ?_) (by rw [size_line]; omega) ?_
  · walk_at "vx"
    rw [frzL_bxP]
    exact ⟨noOwnL_map bxP noOwn_bxP _, q⟩
  · have h := bxT_len ok m
    unfold txI at h
    unfold bxP
    walk_at "vx"
    exact ⟨by omega, by rw [len_app]; omega, h.2.2, by rw [len_app, len_app]; omega, rfl⟩
  refine sq_i ?_
  refine for_rng1 (j := (P.es.length : Int)) (fun Q q => by walk_at "vx"; rw [kl]; exact q) (by omega) (by omega)
    (fun k env => k ≤ P.es.length ∧ ∃ o4 o5 o6 o7 o8 o9, env = [some (.lst false (pbL P)), some (.lst false ((bsP P).map .str)), some (.lst false (P.nm.map .str)), some (.lst true ((rowsT P k).map .str)), o4, o5, o6, o7, o8, o9]) ⟨Nat.zero_le _, _, _, _, _, _, _, by unfold rowsT; rw [List.range_zero, List.flatMap_nil, List.append_nil]; rfl⟩ ?_ ?_
  · rintro k _ hk ⟨_, o4, o5, o6, o7, o8, o9, rfl⟩
    have hk : k < P.es.length := by omega
    have hrl := rows_len ok (n := k) (by omega)
    have hdp := ok.tree.deep k hk
    have hbl : (blT P k).length ≤ 12 := by rw [blT_len]; exact hdp
    have h1 := kd_len ok hk
    have h2 := nmD_le (nmP_le ok) k
    unfold nmD at h2
    rw [Int.toNat_natCast] at h2
    unfold pbL
    refine sq_i ?_
    walk_at "vx"
    refine u_L_chain ok.tree.ok (by omega) (by omega) (by omega) ?_
    walk_at "vx"
    refine ⟨by omega, by omega, by rw [show (Str.ofString " ").length = 1 from e4]; omega, ?_⟩
    rw [Int.toNat_natCast, show repS (Str.ofString " ") (aboveM P.es k).length = blT P k from rfl]
    refine sq_i ?_
    walk_at "vx"
    refine ix_kd (by omega) ?_
    walk_at "vx"
    refine ⟨by omega, ix_map (f := D.str) (xs := P.nm) "" (by omega) (by omega) ?_⟩
    rw [Int.toNat_natCast]
    walk_at "vx"
    refine ⟨by rw [len_app]; omega, ?_⟩
    refine sq_cut (fun env => ∃ o4 o8 o9, env = [some (.lst false (pbL P)), some (.lst false ((bsP P).map .str)), some (.lst false (P.nm.map .str)), some (.lst true ((rowsT P k).map .str)), o4, some (.int k), some (.str (blT P k)), some (.str (moodT P k)), o8, o9]) ?_ ?_
    · walk_at "vx"
      refine ix_lN (by omega) ?_
      walk_at "vx"
      have eD : elD P.ss k = P.ss.getD k 0 := by unfold elD; rw [Int.toNat_natCast]
      by_cases e : kdM P.ks k = "one"
      · obtain ⟨s0, s1⟩ := ss_in ok hk e
        have h3 := nmD_le (nmP_le ok) (elD P.ss k)
        have em : moodT P k = kdM P.ks k ++ " " ++ P.nm.getD k "" ++ " " ++ P.nm.getD (P.ss.getD k 0).toNat "" := by unfold moodT nmD; rw [if_pos e, eD]
        rw [eD] at s0 s1 h3
        unfold nmD at h3
        refine ⟨fun _ => ⟨by rw [len_app, len_app]; omega, ix_lN (by omega) (ix_map (f := D.str) (xs := P.nm) "" s0 (by omega) ?_)⟩, fun z => by omega⟩
        walk_at "vx"
        exact ⟨by rw [len_app, len_app, len_app]; omega, _, _, _, by rw [em]; rfl⟩
      · have es := (ok.hs.2 k hk).2 e
        rw [eD] at es
        have em : moodT P k = kdM P.ks k ++ " " ++ P.nm.getD k "" := by unfold moodT; rw [if_neg e]
        exact ⟨fun z => absurd es z, fun _ => ⟨_, _, _, by rw [em]; rfl⟩⟩
    rintro _ ⟨o4, o8, o9, rfl⟩
    have hmt := moodT_le ok hk
    have hi := ok.ins.2 _ (getD_mem (d := []) (show k < P.ins.length by rw [ok.ins.1]; exact hk))
    have ho := ok.outs.2 _ (getD_mem (d := []) (show k < P.outs.length by rw [ok.outs.1]; exact hk))
    have bb : ∀ (x : Str), blT P k ++ " " ++ (("in " : Str) ++ x) = blT P k ++ " in " ++ x ∧ blT P k ++ " " ++ (("out " : Str) ++ x) = blT P k ++ " out " ++ x := fun x => by
      have e : (Str.ofString " " ++ Str.ofString "in " = Str.ofString " in ") ∧ (Str.ofString " " ++ Str.ofString "out " = Str.ofString " out ") := by decide +kernel
      constructor
      · rw [Str.append_assoc, ← Str.append_assoc (Str.ofString " "), e.1, Str.append_assoc]
      · rw [Str.append_assoc, ← Str.append_assoc (Str.ofString " "), e.2, Str.append_assoc]
    refine sq_i ?_
    walk_at "vx"
    refine ⟨by omega, by omega, ?_⟩
    obtain ⟨R0, hR0⟩ : ∃ R0, R0 = rowsT P k ++ [blT P k ++ moodT P k] := ⟨_, rfl⟩
    have hR0l : R0.length ≤ 2000001 := by rw [hR0, List.length_append]; simp; omega
    refine sq_i ?_
    have nI : noOwnL ((P.ins.getD k []).map dD) = true := noOwnL_map dD noOwn_dD _
    have nO : noOwnL ((P.outs.getD k []).map dD) = true := noOwnL_map dD noOwn_dD _
    refine for_pre dD (xs := P.ins.getD k []) (fun Q q => ?_) (fun pre env => ∃ o4 o8 o9, env = [some (.lst false (pbL P)), some (.lst false ((bsP P).map .str)), some (.lst false (P.nm.map .str)), some (.lst true ((R0 ++ pre.map fun d => blT P k ++ " " ++ (("in " : Str) ++ deedT (bsP P) d)).map .str)), o4, some (.int k), some (.str (blT P k)), some (.str (moodT P k)), o8, o9]) ?_ ?_ ?_
    · unfold pbL
      walk_at "vx"
      refine ix_map (f := dsD) (xs := P.ins) [] (by omega) (by rw [ok.ins.1]; omega) ?_
      rw [Int.toNat_natCast]
      unfold dsD
      walk_at "vx"
      rw [frzL_id _ nI]
      exact ⟨nI, q⟩
    · exact ⟨_, _, _, by rw [List.map_nil, List.append_nil, hR0]; rw [List.map_append]; rfl⟩
    · rintro pre d post _ e ⟨o4, o8, o9, rfl⟩
      have md : d ∈ P.ins.getD k [] := by rw [e]; simp
      have hpl : pre.length ≤ 41 := by have : (P.ins.getD k []).length = pre.length + (post.length + 1) := by rw [e]; simp
                                       omega
      have hd := deedT_le (bsP_le ok) (hi.2 d md)
      walk_at "vx"
      rw [frzL_str, frz_id _ (noOwn_dD d)]
      refine ⟨by simp only [List.length_append, List.length_map]; omega, by omega, u_L_deed_text (bsP_le ok) (by unfold bsP; rw [List.length_map]; exact hi.2 d md) ⟨.inl rfl, by rw [len_app]; omega, o4, some (dD d), o9, ?_⟩⟩
      rw [← (bb _).1]
      simp only [List.map_append, List.map_cons, List.append_assoc, List.map_nil]
    rintro _ ⟨o4, o8, o9, rfl⟩
    obtain ⟨R1, hR1⟩ : ∃ R1, R1 = R0 ++ (P.ins.getD k []).map fun d => blT P k ++ " " ++ (("in " : Str) ++ deedT (bsP P) d) := ⟨_, rfl⟩
    have hR1l : R1.length ≤ 2000042 := by have := hi.1; rw [hR1, List.length_append, List.length_map]; omega
    rw [← hR1]
    refine sq_i ?_
    refine for_pre dD (xs := P.outs.getD k []) (fun Q q => ?_) (fun pre env => ∃ o4 o8 o9, env = [some (.lst false (pbL P)), some (.lst false ((bsP P).map .str)), some (.lst false (P.nm.map .str)), some (.lst true ((R1 ++ pre.map fun d => blT P k ++ " " ++ (("out " : Str) ++ deedT (bsP P) d)).map .str)), o4, some (.int k), some (.str (blT P k)), some (.str (moodT P k)), o8, o9]) ?_ ?_ ?_
    · unfold pbL
      walk_at "vx"
      refine ⟨_, rfl, ?_⟩
      refine ix_map (f := dsD) (xs := P.outs) [] (by omega) (by rw [ok.outs.1]; omega) ?_
      rw [Int.toNat_natCast]
      unfold dsD
      walk_at "vx"
      rw [frzL_id _ nO]
      exact ⟨nO, q⟩
    · exact ⟨_, _, _, by rw [List.map_nil, List.append_nil]⟩
    · rintro pre d post _ e ⟨o4, o8, o9, rfl⟩
      have md : d ∈ P.outs.getD k [] := by rw [e]; simp
      have hpl : pre.length ≤ 41 := by have : (P.outs.getD k []).length = pre.length + (post.length + 1) := by rw [e]; simp
                                       omega
      have hd := deedT_le (bsP_le ok) (ho.2 d md)
      walk_at "vx"
      rw [frzL_str, frz_id _ (noOwn_dD d)]
      refine ⟨by simp only [List.length_append, List.length_map]; omega, by omega, u_L_deed_text (bsP_le ok) (by unfold bsP; rw [List.length_map]; exact ho.2 d md) ⟨.inl rfl, by rw [len_app]; omega, o4, some (dD d), o9, ?_⟩⟩
      rw [← (bb _).2]
      simp only [List.map_append, List.map_cons, List.append_assoc, List.map_nil]
    rintro _ ⟨o4, o8, o9, rfl⟩
    obtain ⟨R2, hR2⟩ : ∃ R2, R2 = R1 ++ (P.outs.getD k []).map fun d => blT P k ++ " " ++ (("out " : Str) ++ deedT (bsP P) d) := ⟨_, rfl⟩
    have hR2l : R2.length ≤ 2000083 := by have := ho.1; rw [hR2, List.length_append, List.length_map]; omega
    rw [← hR2]
    have wl := ok.wl
    dsimp only
    refine for_pre wayD (xs := P.ways) (fun Q q => ?_) (fun pre env => ∃ o4 o8 o9, env = [some (.lst false (pbL P)), some (.lst false ((bsP P).map .str)), some (.lst false (P.nm.map .str)), some (.lst true ((R2 ++ (pre.filter fun w => decide (w.src = (k : Int))).map fun w => blT P k ++ " " ++ wayT (bsP P) P.nm w).map .str)), o4, some (.int k), some (.str (blT P k)), some (.str (moodT P k)), o8, o9]) ?_ ?_ ?_
    · unfold pbL
      walk_at "vx"
      refine ⟨_, rfl, ?_⟩
      show noOwnL (P.ways.map wayD) = true ∧ Q (frzL (P.ways.map wayD))
      rw [frzL_way]
      exact ⟨noOwnL_way _, q⟩
    · exact ⟨_, _, _, by rw [List.filter_nil, List.map_nil, List.append_nil]⟩
    · rintro pre w post _ e ⟨o4, o8, o9, rfl⟩
      have mw : w ∈ P.ways := by rw [e]; simp
      have hpl : pre.length ≤ 41 := by have : P.ways.length = pre.length + (post.length + 1) := by rw [e]; simp
                                       omega
      have hw := wayT_le (bsP_le ok) (nmP_le ok) (okP_w ok mw)
      have hfl := List.length_filter_le (fun w : Way => decide (w.src = (k : Int))) pre
      rw [show wayD w = .tup [.int w.src, .str w.sign, .tup (w.asks.map askD2), dsD w.deeds, .int w.tgt, .str w.mode] from rfl]
      walk_at "vx"
      rw [frzL_str, frzL_str]
      rw [show D.tup [.int w.src, .str w.sign, .tup (frzL (w.asks.map askD2)), frz (dsD w.deeds), .int w.tgt, .str w.mode] = frz (wayD w) from rfl, frz_id _ (noOwn_way w)]
      refine ⟨fun es => ⟨by simp only [List.length_append, List.length_map]; omega, by omega, u_L_way_text (bsP_le ok) (nmP_le ok) (by unfold bsP; rw [List.length_map]; exact okP_w ok mw) ⟨.inl rfl, by rw [len_app]; omega, o4, o8, some (wayD w), ?_⟩⟩, fun es => ⟨o4, o8, some (wayD w), ?_⟩⟩
      · rw [List.filter_append, List.filter_cons_of_pos (by simpa using es), List.filter_nil, List.map_append]
        simp only [List.map_append, List.map_cons, List.append_assoc, List.map_nil]
        rfl
      · rw [List.filter_append, List.filter_cons_of_neg (by simpa using es), List.filter_nil, List.append_nil]
        rfl
    rintro _ ⟨o4, o8, o9, rfl⟩
    have : R2 ++ (P.ways.filter fun w => decide (w.src = (k : Int))).map (fun w => blT P k ++ " " ++ wayT (bsP P) P.nm w) = rowsT P (k + 1) := by
      rw [rowsT_succ, hR2, hR1, hR0]
      unfold moodRows ownT
      simp only [List.map_append, List.map_map, List.append_assoc, List.singleton_append, List.cons_append, List.nil_append]
      rfl
    rw [this]
    exact ⟨hk, _, _, _, _, _, _, rfl⟩
  · rintro _ ⟨_, o4, o5, o6, o7, o8, o9, rfl⟩
    walk_at "vx"
    exact q
-- needs: m_same
def spr_L_alike (n : Nat) : SpD := fun ds Q => ∃ a b, ds = [a, b] ∧ frz a = frz b ∧ okS n b = true ∧ Q (.bl true)
theorem len_L_alike : ∀ n ds Q, spr_L_alike n ds Q → ds.length = 2 := by rintro _ _ _ ⟨_, _, rfl, _⟩; rfl
theorem zero_L_alike : ∀ ds Q, ¬ spr_L_alike 0 ds Q := by
  rintro _ _ ⟨_, b, rfl, _, h, _⟩
  cases b <;> exact Bool.noConfusion h
def sp_L_alike : SpD := spr_L_alike 11
theorem u_L_alike {a b : D} {Q : D → Prop} (h : frz a = frz b) (h2 : okS 11 b = true) (q : Q (.bl true)) : sp_L_alike [a, b] Q := ⟨a, b, rfl, h, h2, q⟩
theorem d_L_alike : ∀ n ds Q, spr_L_alike (n + 1) ds Q → w_L_alike (spr_L_alike n) { nx := fun _ => Q .non, rt := fun d _ => Q d } (env0 3 ds) := by
  rintro n _ Q ⟨a, b, rfl, e, ok, q⟩
  unfold w_L_alike
  have loop : ∀ (xs ys : List D), frzL ys = frzL xs → xs.length < 2 ^ 62 → (∀ x ∈ xs, okS n x = true) → ∀ k, (hk : k < xs.length) → (hy : k < ys.length) → spr_L_alike n [frz ys[k], frz xs[k]] (fun d => d = .bl true) := fun xs ys e hl ok k hk hy => by
    refine ⟨_, _, rfl, ?_, by rw [okS_frz]; exact ok _ (List.getElem_mem hk), rfl⟩
    rw [frz_frz, frz_frz]
    rw [frzL_map, frzL_map] at e
    have := congrArg (fun l => l[k]?) e
    simpa [hk, hy] using this
  cases b with
  | int i =>
    cases a <;> simp only [frz, reduceCtorEq] at e
    obtain rfl := D.int.inj e
    refine sq_i ?_
    walk_at "vx"
    exact q
  | str s =>
    cases a <;> simp only [frz, reduceCtorEq] at e
    obtain rfl := D.str.inj e
    refine sq_i ?_
    walk_at "vx"
    exact q
  | lst m xs =>
    cases a <;> simp only [frz, reduceCtorEq] at e
    rename_i m2 ys
    simp only [D.lst.injEq, true_and] at e
    simp only [okS, Bool.and_eq_true, decide_eq_true_eq, List.all_eq_true] at ok
    have hl : ys.length = xs.length := by have := congrArg List.length e; rwa [frzL_map, frzL_map, List.length_map, List.length_map] at this
    refine sq_i ?_
    walk_at "vx"
    refine sq_i ?_
    walk_at "vx"
    refine sq_i ?_
    walk_at "vx"
    refine ⟨fun h => absurd (by omega) h, fun _ => ?_⟩
    refine sq_i ?_
    refine for_rng1 (j := (xs.length : Int)) (fun Q q => by walk_at "vx"; exact q) (by omega) (by omega) (fun k env => ∃ o, env = [some (.lst m2 ys), some (.lst m xs), o]) ⟨_, rfl⟩ ?_ ?_
    · rintro k _ hk ⟨o, rfl⟩
      walk_at "vx"
      refine atI_in (by omega) (atI_in (by omega) ?_)
      obtain ⟨_, _, e1, e2, e3, e4⟩ := loop xs ys e ok.1 ok.2 k (by omega) (by omega)
      refine ⟨_, _, e1, e2, e3, .inl rfl, fun h => (by cases h), fun _ => ⟨_, rfl⟩⟩
    · rintro _ ⟨o, rfl⟩
      walk_at "vx"
      exact q
  | tup xs =>
    cases a <;> simp only [frz, reduceCtorEq] at e
    rename_i ys
    simp only [D.tup.injEq] at e
    simp only [okS, Bool.and_eq_true, decide_eq_true_eq, List.all_eq_true] at ok
    have hl : ys.length = xs.length := by have := congrArg List.length e; rwa [frzL_map, frzL_map, List.length_map, List.length_map] at this
    refine sq_i ?_
    walk_at "vx"
    refine sq_i ?_
    walk_at "vx"
    refine sq_i ?_
    walk_at "vx"
    refine ⟨fun h => absurd (by omega) h, fun _ => ?_⟩
    refine sq_i ?_
    refine for_rng1 (j := (xs.length : Int)) (fun Q q => by walk_at "vx"; exact q) (by omega) (by omega) (fun k env => ∃ o, env = [some (.tup ys), some (.tup xs), o]) ⟨_, rfl⟩ ?_ ?_
    · rintro k _ hk ⟨o, rfl⟩
      walk_at "vx"
      refine atI_in (by omega) (atI_in (by omega) ?_)
      obtain ⟨_, _, e1, e2, e3, e4⟩ := loop xs ys e ok.1 ok.2 k (by omega) (by omega)
      refine ⟨_, _, e1, e2, e3, .inl rfl, fun h => (by cases h), fun _ => ⟨_, rfl⟩⟩
    · rintro _ ⟨o, rfl⟩
      walk_at "vx"
      exact q
  | _ => cases ok
-- needs: m_byS L_alike L_chart_by
def sp_L_same_4 : SpD := fun ds Q => ∃ P, ds = [chB false P, .lst false (pbL P)] ∧ okPB P ∧ Q (.bl true)
theorem len_L_same_4 : ∀ ds Q, sp_L_same_4 ds Q → ds.length = 2 := by rintro _ _ ⟨_, rfl, _⟩; rfl
theorem u_L_same_4 {P : PB} {Q : D → Prop} (ok : okPB P) (q : Q (.bl true)) : sp_L_same_4 [chB false P, .lst false (pbL P)] Q := ⟨P, rfl, ok, q⟩
theorem d_L_same_4 : ∀ ds Q, sp_L_same_4 ds Q → w_L_same_4 sp_L_alike { nx := fun _ => Q .non, rt := fun d _ => Q d } (env0 4 ds) := by
  rintro _ Q ⟨P, rfl, ok, q⟩
  unfold w_L_same_4 chB
  refine sq_i ?_
  walk_at "vc"
  refine sq_i ?_
  walk_at "vc"
  walk_at "vt"
  walk_at "wx"
  rw [frzL_bxP, frzL_str, frzL_str, frzL_dsD, frzL_dsD, frzL_way, frzL_pbL]
  refine ⟨noOwnL_map bxP noOwn_bxP _, noOwnL_str _, noOwnL_str _, noOwnL_dsD _, noOwnL_dsD _, noOwnL_way _, ?_⟩
  exact u_L_alike rfl (okS_pb ok) ⟨.inl rfl, q⟩
-- needs: L_parts_by L_chart_by shown L_rows_2 L_same_4
def sp_law_35 : SpD := spLaw fun ys => ys.length ≤ 63
theorem len_law_35 : ∀ ds Q, sp_law_35 ds Q → ds.length = 1 := by rintro _ _ ⟨_, rfl, _⟩; rfl
theorem d_law_35 : ∀ ds Q, sp_law_35 ds Q → w_law_35 sp_L_parts_by sp_L_chart_by sp_shown sp_L_rows_2 sp_L_same_4 { nx := fun _ => Q .non, rt := fun d _ => Q d } (env0 6 ds) := by
  rintro _ Q ⟨ns, rfl, hl, q⟩
  have hl : ns.length ≤ 63 := hl
  unfold w_law_35
  refine sq_i ?_
  walk_at "vx"
  refine u_L_parts_by hl fun P ok => ?_
  walk_at "wx"
  refine sq_i ?_
  walk_at "wx"
  rw [frzL_pbL]
  refine u_L_chart_by ⟨.inl (alo_chB P), ?_⟩
  refine sq_i ?_
  walk_at "vB"
  refine u_shown ok ?_
  walk_at "vB"
  have hb := ok.bl
  refine sq_i ?_
  walk_at "vB"
  refine lc_txt (xs := P.bx) bxP bxP_inj Prod.fst (fun Q q => ?_) (fun b m => ?_) (by rw [size_line]; omega) ?_
  · unfold pbL
    walk_at "vx"
    rw [frzL_bxP]
    exact ⟨noOwnL_map bxP noOwn_bxP _, q⟩
  · unfold bxP
    walk_at "vx"
  have hs := rowsT_all ok (Nat.le_refl _)
  unfold slen at hs
  walk_at "wx"
  rw [frzL_pbL, show frzL (P.bx.map (D.str ∘ Prod.fst)) = (bsP P).map .str by rw [← List.map_map, frzL_str]; rfl]
  refine u_L_rows_2 ok ⟨.inl (by show (true && aloL _) = true; rw [aloL_str]; rfl), _, .inl ⟨_, rfl⟩, ?_, fun _ => ?_, fun n => absurd rfl n⟩
  · rw [show (Str.ofString "\n").length = 1 by decide +kernel]
    omega
  · exact u_L_same_4 ok ⟨.inl rfl, rfl, q⟩
end VL
namespace VL
open PySem L2 PyProof.Rows
def top (i : Nat) : Stmt := PySem.Challenge.pw_moodtree_k20_whole_chart_written.main.body.getD i (.Pass ⟨0, 0, 0, 0⟩)
abbrev frees : List Str := ["abs", "bool", "int", "isinstance", "len", "list", "min", "range", "str", "tuple"]
section
variable {P : Program} {w : World} {K : PySem.W.Frag} {mg : Str → Option Value} {base : Heap} {cs : Cs}
abbrev s_L_chain : Stmt := top 16
theorem sc_L_chain : FnScope ["elders", "mood", "found", "at"] ["elders", "mood"] (defScope s_L_chain) := ⟨rfl, rfl, rfl, by decide +kernel, rfl, by decide +kernel, by decide +kernel⟩
theorem vs_L_chain (hC : CsOk K cs) (hcf : ∀ ci ∈ cs, ci.fields = fieldsOf ci.name) (fr : Free mg frees) {f : Addr} {cdv : Value} {A : Around} {outer : List PySem.Env} {sh : Shared} {H : Hp} {E : XK} (hr : Room 0 (A.deeper (envOfC "_law_chain" (defScope s_L_chain) sh.heap.objs.size f cdv))) :
    VSs (cxOf CX0 P w K mg base ["elders", "mood", "found", "at"] "_law_chain" (defScope s_L_chain) f cdv A outer sh H E).nox cs [] (defBody s_L_chain) (w_L_chain) :=
  (vss_cons (vs_set 2 (vt_lst vm_nil) sc_L_chain.nd) (vss_cons (vs_set 3 (vt_tk (vp_ix (vp_v 0) (vp_v 1))) sc_L_chain.nd) (vss_cons (vs_while PassesOwn.never (vb_cmp (op_ne2 hr.units) od_ne (vp_v 3) (vp_of (vt_neg (vp_of vt_int))) (nomark _)) (vss_cons (vs_app 2 (pe_bm PySem.F.plainAttrs_list PySem.F.slot_list_append PySem.F.type_list_append mt_append (pv 2) (pa_cons (VT.run (vt_tk (vp_v 3))) pa_nil))) (vss_one (vs_set 3 (vt_tk (vp_ix (vp_v 0) (vp_v 3))) sc_L_chain.nd)))) (vss_one (vs_retv 2)))))
theorem kn_L_chain (hC : CsOk K cs) (hcf : ∀ ci ∈ cs, ci.fields = fieldsOf ci.name) (fr : Free mg frees) {f : Addr} {fd : FuncData} (F : Fun K "_law_chain" "_law_chain" s_L_chain f fd) (hm : mg "_law_chain" = some (.ref f)) (hb : Binds K fd ["elders", "mood"] []) {s : SpD} (hl : ∀ ds Q, s ds Q → ds.length = 2)
    (hd : ∀ ds Q, s ds Q → w_L_chain { nx := fun _ => Q .non, rt := fun d _ => Q d } (env0 4 ds)) : Kn P w K mg base cs "_law_chain" 1 ["elders", "mood"] s :=
  ⟨f, fd, fn_pure F sc_L_chain hl (fun _ _ _ _ _ _ hr => vs_L_chain hC hcf fr hr) hd, hm, F.kp, hb⟩
abbrev s_L_elders_by_2 : Stmt := top 20
theorem sc_L_elders_by_2 : FnScope ["items", "elders", "item", "last", "roads"] ["items"] (defScope s_L_elders_by_2) := ⟨rfl, rfl, rfl, by decide +kernel, rfl, by decide +kernel, by decide +kernel⟩
theorem vs_L_elders_by_2 {sp0 : SpD} (hC : CsOk K cs) (hcf : ∀ ci ∈ cs, ci.fields = fieldsOf ci.name) (fr : Free mg frees) (kn0 : Kn P w K mg base cs "_law_chain" 1 ["elders", "mood"] sp0) {f : Addr} {cdv : Value} {A : Around} {outer : List PySem.Env} {sh : Shared} {H : Hp} {E : XK} (hr : Room 1 (A.deeper (envOfC "_law_elders_by" (defScope s_L_elders_by_2) sh.heap.objs.size f cdv))) :
    VSs (cxOf CX0 P w K mg base ["items", "elders", "item", "last", "roads"] "_law_elders_by" (defScope s_L_elders_by_2) f cdv A outer sh H E).nox cs [] (defBody s_L_elders_by_2) (w_L_elders_by_2 sp0) :=
  (vss_cons (vs_set 1 (vt_lst (vm_cons (vt_neg (vp_of vt_int)) vm_nil)) sc_L_elders_by_2.nd) (vss_cons (vs_for 2 PassesOwn.never rfl (vi_seq (vt_tk (vp_v 0))) sc_L_elders_by_2.nd (vss_one (vs_if (vb_cmp op_lt od_cmp (vp_of (vt_op op_mod od_mod (vp_ix (vp_v 2) (vp_of vt_int)) (vp_of vt_int))) (vp_of vt_int) (nomark _)) (vss_cons (vs_set 3 (vt_op op_sub od_sub (vp_of (vt_callB call_len cd_len rfl (fr _ (by decide)) boot_more.1 (va_cons (vp_v 1) va_nil))) (vp_of vt_int)) sc_L_elders_by_2.nd) (vss_cons (vs_set 4 (vt_op op_add5 od_addG (vp_of (vt_lst (vm_cons (vt_tk (vp_v 3)) vm_nil))) (vp_of (vt_fn kn0 (hr.mono (by decide)) rfl (va_cons (vp_v 1) (va_cons (vp_v 3) va_nil))))) sc_L_elders_by_2.nd) (vss_cons (vs_if (vb_cmp op_gt od_cmp (vp_of (vt_callB call_len cd_len rfl (fr _ (by decide)) boot_more.1 (va_cons (vp_v 4) va_nil))) (vp_of vt_int) (nomark _)) (vss_one (vs_set 4 (vt_sl (vp_v 4) (vo_some (vp_of vt_int)) vo_no) sc_L_elders_by_2.nd)) vss_nil) (vss_one (vs_app 1 (pe_bm PySem.F.plainAttrs_list PySem.F.slot_list_append PySem.F.type_list_append mt_append (pv 1) (pa_cons (VT.run (vt_tk (vp_ix (vp_v 4) (vp_of (vt_op op_mod od_mod (vp_of (vt_op op_fdivW od_fdiv (vp_ix (vp_v 2) (vp_of vt_int)) (vp_of vt_int))) (vp_of (vt_callB call_len cd_len rfl (fr _ (by decide)) boot_more.1 (va_cons (vp_v 4) va_nil)))))))) pa_nil))))))) vss_nil))) (vss_one (vs_retv 1))))
theorem kn_L_elders_by_2 {sp0 : SpD} (hC : CsOk K cs) (hcf : ∀ ci ∈ cs, ci.fields = fieldsOf ci.name) (fr : Free mg frees) (kn0 : Kn P w K mg base cs "_law_chain" 1 ["elders", "mood"] sp0) {f : Addr} {fd : FuncData} (F : Fun K "_law_elders_by" "_law_elders_by" s_L_elders_by_2 f fd) (hm : mg "_law_elders_by" = some (.ref f)) (hb : Binds K fd ["items"] []) {s : SpD} (hl : ∀ ds Q, s ds Q → ds.length = 1)
    (hd : ∀ ds Q, s ds Q → w_L_elders_by_2 sp0 { nx := fun _ => Q .non, rt := fun d _ => Q d } (env0 5 ds)) : Kn P w K mg base cs "_law_elders_by" 2 ["items"] s :=
  ⟨f, fd, fn_pure F sc_L_elders_by_2 hl (fun _ _ _ _ _ _ hr => vs_L_elders_by_2 hC hcf fr kn0 hr) hd, hm, F.kp, hb⟩
abbrev s_L_cell_at : Stmt := top 15
theorem sc_L_cell_at : FnScope ["script", "k"] ["script", "k"] (defScope s_L_cell_at) := ⟨rfl, rfl, rfl, by decide +kernel, rfl, by decide +kernel, by decide +kernel⟩
theorem vs_L_cell_at (hC : CsOk K cs) (hcf : ∀ ci ∈ cs, ci.fields = fieldsOf ci.name) (fr : Free mg frees) {f : Addr} {cdv : Value} {A : Around} {outer : List PySem.Env} {sh : Shared} {H : Hp} {E : XK} (hr : Room 0 (A.deeper (envOfC "_law_cell_at" (defScope s_L_cell_at) sh.heap.objs.size f cdv))) :
    VSs (cxOf CX0 P w K mg base ["script", "k"] "_law_cell_at" (defScope s_L_cell_at) f cdv A outer sh H E).nox cs [] (defBody s_L_cell_at) (w_L_cell_at) :=
  (vss_cons (vs_if (vb_cmp op_lt od_cmp (vp_v 1) (vp_of (vt_callB call_len cd_len rfl (fr _ (by decide)) boot_more.1 (va_cons (vp_v 0) va_nil))) (nomark _)) (vss_one (vs_ret (vt_tk (vp_ix (vp_v 0) (vp_v 1))))) vss_nil) (vss_one (vs_ret vt_int)))
theorem kn_L_cell_at (hC : CsOk K cs) (hcf : ∀ ci ∈ cs, ci.fields = fieldsOf ci.name) (fr : Free mg frees) {f : Addr} {fd : FuncData} (F : Fun K "_law_cell_at" "_law_cell_at" s_L_cell_at f fd) (hm : mg "_law_cell_at" = some (.ref f)) (hb : Binds K fd ["script", "k"] []) {s : SpD} (hl : ∀ ds Q, s ds Q → ds.length = 2)
    (hd : ∀ ds Q, s ds Q → w_L_cell_at { nx := fun _ => Q .non, rt := fun d _ => Q d } (env0 2 ds)) : Kn P w K mg base cs "_law_cell_at" 1 ["script", "k"] s :=
  ⟨f, fd, fn_pure F sc_L_cell_at hl (fun _ _ _ _ _ _ hr => vs_L_cell_at hC hcf fr hr) hd, hm, F.kp, hb⟩
abbrev s_L_name_by : Stmt := top 17
theorem sc_L_name_by : FnScope ["number", "used", "letters", "words", "more", "name", "rest"] ["number", "used"] (defScope s_L_name_by) := ⟨rfl, rfl, rfl, by decide +kernel, rfl, by decide +kernel, by decide +kernel⟩
theorem vs_L_name_by (hC : CsOk K cs) (hcf : ∀ ci ∈ cs, ci.fields = fieldsOf ci.name) (fr : Free mg frees) {f : Addr} {cdv : Value} {A : Around} {outer : List PySem.Env} {sh : Shared} {H : Hp} {E : XK} (hr : Room 0 (A.deeper (envOfC "_law_name_by" (defScope s_L_name_by) sh.heap.objs.size f cdv))) :
    VSs (cxOf CX0 P w K mg base ["number", "used", "letters", "words", "more", "name", "rest"] "_law_name_by" (defScope s_L_name_by) f cdv A outer sh H E).nox cs [] (defBody s_L_name_by) (w_L_name_by) :=
  (vss_cons (vs_set 2 vt_str sc_L_name_by.nd) (vss_cons (vs_set 3 (vt_sm1 PySem.F.slot_str_split PySem.F.type_str_split mt_split os_split (vp_of vt_str) (vp_of vt_str)) sc_L_name_by.nd) (vss_cons (vs_for 4 PassesOwn.never rfl (vi_rng1 rfl (fr _ (by decide)) (va_cons (vp_of (vt_op op_add5 od_addG (vp_of (vt_callB call_len cd_len rfl (fr _ (by decide)) boot_more.1 (va_cons (vp_v 1) va_nil))) (vp_of vt_int))) va_nil)) sc_L_name_by.nd (vss_cons (vs_set 5 (vt_tk (vp_ix (vp_v 2) (vp_of (vt_op op_mod od_mod (vp_of (vt_op op_add5 od_addG (vp_v 0) (vp_v 4))) (vp_of vt_int))))) sc_L_name_by.nd) (vss_cons (vs_set 6 (vt_op op_fdivW od_fdiv (vp_of (vt_op op_add5 od_addG (vp_v 0) (vp_v 4))) (vp_of vt_int)) sc_L_name_by.nd) (vss_cons (vs_while PassesOwn.never (vb_cmp op_gt od_cmp (vp_v 6) (vp_of vt_int) (nomark _)) (vss_cons (vs_set 5 (vt_op op_add5 od_addG (vp_v 5) (vp_ix (vp_v 2) (vp_of (vt_op op_mod od_mod (vp_v 6) (vp_of vt_int))))) sc_L_name_by.nd) (vss_one (vs_set 6 (vt_op op_fdivW od_fdiv (vp_v 6) (vp_of vt_int)) sc_L_name_by.nd)))) (vss_one (vs_if (VW.vb (vw_and (vb_cmp op_nin2 od_in (vp_v 5) (vp_v 1) (by rfl)) (vw_and1 (vb_cmp op_nin2 od_in (vp_v 5) (vp_v 3) (by rfl))))) (vss_one (vs_retv 5)) vss_nil)))))) (vss_one (vs_ret vt_str)))))
theorem kn_L_name_by (hC : CsOk K cs) (hcf : ∀ ci ∈ cs, ci.fields = fieldsOf ci.name) (fr : Free mg frees) {f : Addr} {fd : FuncData} (F : Fun K "_law_name_by" "_law_name_by" s_L_name_by f fd) (hm : mg "_law_name_by" = some (.ref f)) (hb : Binds K fd ["number", "used"] []) {s : SpD} (hl : ∀ ds Q, s ds Q → ds.length = 2)
    (hd : ∀ ds Q, s ds Q → w_L_name_by { nx := fun _ => Q .non, rt := fun d _ => Q d } (env0 7 ds)) : Kn P w K mg base cs "_law_name_by" 1 ["number", "used"] s :=
  ⟨f, fd, fn_pure F sc_L_name_by hl (fun _ _ _ _ _ _ hr => vs_L_name_by hC hcf fr hr) hd, hm, F.kp, hb⟩
abbrev s_L_names_by : Stmt := top 18
theorem sc_L_names_by : FnScope ["script", "many", "base", "step", "found", "k"] ["script", "many"] (defScope s_L_names_by) := ⟨rfl, rfl, rfl, by decide +kernel, rfl, by decide +kernel, by decide +kernel⟩
theorem vs_L_names_by {sp0 : SpD} {sp1 : SpD} (hC : CsOk K cs) (hcf : ∀ ci ∈ cs, ci.fields = fieldsOf ci.name) (fr : Free mg frees) (kn0 : Kn P w K mg base cs "_law_cell_at" 1 ["script", "k"] sp0) (kn1 : Kn P w K mg base cs "_law_name_by" 1 ["number", "used"] sp1) {f : Addr} {cdv : Value} {A : Around} {outer : List PySem.Env} {sh : Shared} {H : Hp} {E : XK} (hr : Room 1 (A.deeper (envOfC "_law_names_by" (defScope s_L_names_by) sh.heap.objs.size f cdv))) :
    VSs (cxOf CX0 P w K mg base ["script", "many", "base", "step", "found", "k"] "_law_names_by" (defScope s_L_names_by) f cdv A outer sh H E).nox cs [] (defBody s_L_names_by) (w_L_names_by sp0 sp1) :=
  (vss_cons (vs_set 2 (vt_op op_mod od_mod (vp_of (vt_fn kn0 (hr.mono (by decide)) rfl (va_cons (vp_v 0) (va_cons (vp_of vt_int) va_nil)))) (vp_of (vt_op op_mul od_mul (vp_of vt_int) (vp_of (vt_op op_pow od_pow (vp_of vt_int) (vp_of vt_int)))))) sc_L_names_by.nd) (vss_cons (vs_set 3 (vt_tk (vp_ix (vp_of (vt_lst (vm_cons vt_int (vm_cons vt_int (vm_cons vt_int (vm_cons vt_int (vm_cons vt_int vm_nil))))))) (vp_of (vt_op op_mod od_mod (vp_of (vt_fn kn0 (hr.mono (by decide)) rfl (va_cons (vp_v 0) (va_cons (vp_of vt_int) va_nil)))) (vp_of vt_int))))) sc_L_names_by.nd) (vss_cons (vs_set 4 (vt_lst vm_nil) sc_L_names_by.nd) (vss_cons (vs_for 5 PassesOwn.never rfl (vi_rng1 rfl (fr _ (by decide)) (va_cons (vp_v 1) va_nil)) sc_L_names_by.nd (vss_one (vs_app 4 (pe_bm PySem.F.plainAttrs_list PySem.F.slot_list_append PySem.F.type_list_append mt_append (pv 4) (pa_cons (VT.run (vt_fn kn1 (hr.mono (by decide)) rfl (va_cons (vp_of (vt_op op_add5 od_addG (vp_v 2) (vp_of (vt_op op_mul od_mul (vp_v 5) (vp_v 3))))) (va_cons (vp_v 4) va_nil)))) pa_nil))))) (vss_one (vs_retv 4))))))
theorem kn_L_names_by {sp0 : SpD} {sp1 : SpD} (hC : CsOk K cs) (hcf : ∀ ci ∈ cs, ci.fields = fieldsOf ci.name) (fr : Free mg frees) (kn0 : Kn P w K mg base cs "_law_cell_at" 1 ["script", "k"] sp0) (kn1 : Kn P w K mg base cs "_law_name_by" 1 ["number", "used"] sp1) {f : Addr} {fd : FuncData} (F : Fun K "_law_names_by" "_law_names_by" s_L_names_by f fd) (hm : mg "_law_names_by" = some (.ref f)) (hb : Binds K fd ["script", "many"] []) {s : SpD} (hl : ∀ ds Q, s ds Q → ds.length = 2)
    (hd : ∀ ds Q, s ds Q → w_L_names_by sp0 sp1 { nx := fun _ => Q .non, rt := fun d _ => Q d } (env0 6 ds)) : Kn P w K mg base cs "_law_names_by" 2 ["script", "many"] s :=
  ⟨f, fd, fn_pure F sc_L_names_by hl (fun _ _ _ _ _ _ hr => vs_L_names_by hC hcf fr kn0 kn1 hr) hd, hm, F.kp, hb⟩
abbrev s_L_kinds_by : Stmt := top 25
theorem sc_L_kinds_by : FnScope ["elders", "cells", "kinds", "starts", "mood", "near", "at", "start"] ["elders", "cells"] (defScope s_L_kinds_by) := ⟨rfl, rfl, rfl, by decide +kernel, rfl, by decide +kernel, by decide +kernel⟩
theorem vs_L_kinds_by (hC : CsOk K cs) (hcf : ∀ ci ∈ cs, ci.fields = fieldsOf ci.name) (fr : Free mg frees) {f : Addr} {cdv : Value} {A : Around} {outer : List PySem.Env} {sh : Shared} {H : Hp} {E : XK} (hr : Room 0 (A.deeper (envOfC "_law_kinds_by" (defScope s_L_kinds_by) sh.heap.objs.size f cdv))) :
    VSs (cxOf CX0 P w K mg base ["elders", "cells", "kinds", "starts", "mood", "near", "at", "start"] "_law_kinds_by" (defScope s_L_kinds_by) f cdv A outer sh H E).nox cs [] (defBody s_L_kinds_by) (w_L_kinds_by) :=
  (vss_cons (vs_set 2 (vt_lst vm_nil) sc_L_kinds_by.nd) (vss_cons (vs_set 3 (vt_lst vm_nil) sc_L_kinds_by.nd) (vss_cons (vs_for 4 PassesOwn.never rfl (vi_rng1 rfl (fr _ (by decide)) (va_cons (vp_of (vt_callB call_len cd_len rfl (fr _ (by decide)) boot_more.1 (va_cons (vp_v 0) va_nil))) va_nil)) sc_L_kinds_by.nd (vss_cons (vs_setLc 5 6 rfl sc_L_kinds_by.nd rfl rfl (sw_true rfl rfl rfl (by decide +kernel)) (vi_rng1 rfl (fr _ (by decide)) (va_cons (vp_of (vt_callB call_len cd_len rfl (fr _ (by decide)) boot_more.1 (va_cons (vp_v 0) va_nil))) va_nil)) (blkOk_by (N := ["elders", "cells", "kinds", "starts", "mood", "near", "at", "start"]) (sc := defScope s_L_kinds_by) (by decide +kernel)) (fun _ _ _ _ _ => pg_name sc_L_kinds_by.nd rfl (Or.inl rfl)) (fun _ _ _ _ _ => (vts_one (vb_cmp (op_eq2 hr.units) od_eq (vp_ix (vp_v 0) (vp_v 6)) (vp_v 4) (nomark _)))) (fun _ _ _ _ _ => (vt_tk (vp_v 6)))) (vss_cons (vs_set 7 (vt_neg (vp_of vt_int)) sc_L_kinds_by.nd) (vss_cons (vs_if (vb_cmp (op_eq2 hr.units) od_eq (vp_v 5) (vp_of (vt_lst vm_nil)) (nomark _)) (vss_one (vs_app 2 (pe_bm PySem.F.plainAttrs_list PySem.F.slot_list_append PySem.F.type_list_append mt_append (pv 2) (pa_cons (VT.run vt_str) pa_nil)))) (vss_one (vs_if (vb_cmp (op_eq2 hr.units) od_eq (vp_of (vt_op op_mod od_mod (vp_ix (vp_v 1) (vp_v 4)) (vp_of vt_int))) (vp_of vt_int) (nomark _)) (vss_one (vs_app 2 (pe_bm PySem.F.plainAttrs_list PySem.F.slot_list_append PySem.F.type_list_append mt_append (pv 2) (pa_cons (VT.run vt_str) pa_nil)))) (vss_cons (vs_app 2 (pe_bm PySem.F.plainAttrs_list PySem.F.slot_list_append PySem.F.type_list_append mt_append (pv 2) (pa_cons (VT.run vt_str) pa_nil))) (vss_one (vs_set 7 (vt_tk (vp_ix (vp_v 5) (vp_of (vt_op op_mod od_mod (vp_of (vt_op op_fdivW od_fdiv (vp_ix (vp_v 1) (vp_v 4)) (vp_of vt_int))) (vp_of (vt_callB call_len cd_len rfl (fr _ (by decide)) boot_more.1 (va_cons (vp_v 5) va_nil))))))) sc_L_kinds_by.nd)))))) (vss_one (vs_app 3 (pe_bm PySem.F.plainAttrs_list PySem.F.slot_list_append PySem.F.type_list_append mt_append (pv 3) (pa_cons (VT.run (vt_tk (vp_v 7))) pa_nil)))))))) (vss_one (vs_retlst (vm_mv 2 (vm_mv 3 vm_nil)))))))
theorem kn_L_kinds_by (hC : CsOk K cs) (hcf : ∀ ci ∈ cs, ci.fields = fieldsOf ci.name) (fr : Free mg frees) {f : Addr} {fd : FuncData} (F : Fun K "_law_kinds_by" "_law_kinds_by" s_L_kinds_by f fd) (hm : mg "_law_kinds_by" = some (.ref f)) (hb : Binds K fd ["elders", "cells"] []) {s : SpD} (hl : ∀ ds Q, s ds Q → ds.length = 2)
    (hd : ∀ ds Q, s ds Q → w_L_kinds_by { nx := fun _ => Q .non, rt := fun d _ => Q d } (env0 8 ds)) : Kn P w K mg base cs "_law_kinds_by" 1 ["elders", "cells"] s :=
  ⟨f, fd, fn_pure F sc_L_kinds_by hl (fun _ _ _ _ _ _ hr => vs_L_kinds_by hC hcf fr hr) hd, hm, F.kp, hb⟩
abbrev s_L_number_by : Stmt := top 19
theorem sc_L_number_by : FnScope ["cell", "size"] ["cell"] (defScope s_L_number_by) := ⟨rfl, rfl, rfl, by decide +kernel, rfl, by decide +kernel, by decide +kernel⟩
theorem vs_L_number_by (hC : CsOk K cs) (hcf : ∀ ci ∈ cs, ci.fields = fieldsOf ci.name) (fr : Free mg frees) {f : Addr} {cdv : Value} {A : Around} {outer : List PySem.Env} {sh : Shared} {H : Hp} {E : XK} (hr : Room 0 (A.deeper (envOfC "_law_number_by" (defScope s_L_number_by) sh.heap.objs.size f cdv))) :
    VSs (cxOf CX0 P w K mg base ["cell", "size"] "_law_number_by" (defScope s_L_number_by) f cdv A outer sh H E).nox cs [] (defBody s_L_number_by) (w_L_number_by) :=
  (vss_cons (vs_set 1 (vt_op op_mod od_mod (vp_of (vt_op op_fdivW od_fdiv (vp_v 0) (vp_of vt_int))) (vp_of (vt_op op_pow od_pow (vp_of vt_int) (vp_of vt_int)))) sc_L_number_by.nd) (vss_cons (vs_if (vb_cmp (op_eq2 hr.units) od_eq (vp_of (vt_op op_mod od_mod (vp_v 0) (vp_of vt_int))) (vp_of vt_int) (nomark _)) (vss_one (vs_ret (vt_op op_sub od_sub (vp_of vt_int) (vp_v 1)))) vss_nil) (vss_one (vs_retv 1))))
theorem kn_L_number_by (hC : CsOk K cs) (hcf : ∀ ci ∈ cs, ci.fields = fieldsOf ci.name) (fr : Free mg frees) {f : Addr} {fd : FuncData} (F : Fun K "_law_number_by" "_law_number_by" s_L_number_by f fd) (hm : mg "_law_number_by" = some (.ref f)) (hb : Binds K fd ["cell"] []) {s : SpD} (hl : ∀ ds Q, s ds Q → ds.length = 1)
    (hd : ∀ ds Q, s ds Q → w_L_number_by { nx := fun _ => Q .non, rt := fun d _ => Q d } (env0 2 ds)) : Kn P w K mg base cs "_law_number_by" 1 ["cell"] s :=
  ⟨f, fd, fn_pure F sc_L_number_by hl (fun _ _ _ _ _ _ hr => vs_L_number_by hC hcf fr hr) hd, hm, F.kp, hb⟩
abbrev s_L_deed_by : Stmt := top 21
theorem sc_L_deed_by : FnScope ["item", "boxes", "names", "pick", "name", "term"] ["item", "boxes", "names"] (defScope s_L_deed_by) := ⟨rfl, rfl, rfl, by decide +kernel, rfl, by decide +kernel, by decide +kernel⟩
theorem vs_L_deed_by {sp0 : SpD} (hC : CsOk K cs) (hcf : ∀ ci ∈ cs, ci.fields = fieldsOf ci.name) (fr : Free mg frees) (kn0 : Kn P w K mg base cs "_law_number_by" 1 ["cell"] sp0) {f : Addr} {cdv : Value} {A : Around} {outer : List PySem.Env} {sh : Shared} {H : Hp} {E : XK} (hr : Room 1 (A.deeper (envOfC "_law_deed_by" (defScope s_L_deed_by) sh.heap.objs.size f cdv))) :
    VSs (cxOf CX0 P w K mg base ["item", "boxes", "names", "pick", "name", "term"] "_law_deed_by" (defScope s_L_deed_by) f cdv A outer sh H E).nox cs [] (defBody s_L_deed_by) (w_L_deed_by sp0) :=
  (vss_cons (vs_set 3 (vt_op op_fdivW od_fdiv (vp_ix (vp_v 0) (vp_of vt_int)) (vp_of vt_int)) sc_L_deed_by.nd) (vss_cons (vs_set 4 (vt_tk (vp_ix (vp_v 2) (vp_of (vt_op op_mod od_mod (vp_ix (vp_v 0) (vp_of vt_int)) (vp_of (vt_callB call_len cd_len rfl (fr _ (by decide)) boot_more.1 (va_cons (vp_v 2) va_nil))))))) sc_L_deed_by.nd) (vss_cons (vs_set 5 (vt_tup (vm_cons (vt_op op_sub od_sub (vp_of (vt_op op_mod od_mod (vp_v 3) (vp_of (vt_op op_add5 od_addG (vp_v 1) (vp_of vt_int))))) (vp_of vt_int)) (vm_cons (vt_fn kn0 (hr.mono (by decide)) rfl (va_cons (vp_of (vt_op op_fdivW od_fdiv (vp_ix (vp_v 0) (vp_of vt_int)) (vp_of vt_int))) va_nil)) vm_nil))) sc_L_deed_by.nd) (vss_cons (vs_if (vb_cmp (op_eq2 hr.units) od_eq (vp_of (vt_op op_mod od_mod (vp_of (vt_op op_fdivW od_fdiv (vp_ix (vp_v 0) (vp_of vt_int)) (vp_of vt_int))) (vp_of vt_int))) (vp_of vt_int) (nomark _)) (vss_one (vs_rettup (vm_cons vt_str (vm_mv 4 vm_nil)))) vss_nil) (vss_cons (vs_if (VW.vb (vw_and (vb_cmp (op_eq2 hr.units) od_eq (vp_of (vt_op op_mod od_mod (vp_of (vt_op op_fdivW od_fdiv (vp_ix (vp_v 0) (vp_of vt_int)) (vp_of vt_int))) (vp_of vt_int))) (vp_of vt_int) (nomark _)) (vw_and1 (vb_cmp op_gt od_cmp (vp_v 1) (vp_of vt_int) (nomark _))))) (vss_one (vs_rettup (vm_cons vt_str (vm_cons (vt_op op_mod od_mod (vp_of (vt_op op_fdivW od_fdiv (vp_v 3) (vp_of vt_int))) (vp_v 1)) (vm_mv 5 vm_nil))))) vss_nil) (vss_one (vs_rettup (vm_cons vt_str (vm_mv 4 (vm_mv 5 vm_nil))))))))))
theorem kn_L_deed_by {sp0 : SpD} (hC : CsOk K cs) (hcf : ∀ ci ∈ cs, ci.fields = fieldsOf ci.name) (fr : Free mg frees) (kn0 : Kn P w K mg base cs "_law_number_by" 1 ["cell"] sp0) {f : Addr} {fd : FuncData} (F : Fun K "_law_deed_by" "_law_deed_by" s_L_deed_by f fd) (hm : mg "_law_deed_by" = some (.ref f)) (hb : Binds K fd ["item", "boxes", "names"] []) {s : SpD} (hl : ∀ ds Q, s ds Q → ds.length = 3)
    (hd : ∀ ds Q, s ds Q → w_L_deed_by sp0 { nx := fun _ => Q .non, rt := fun d _ => Q d } (env0 6 ds)) : Kn P w K mg base cs "_law_deed_by" 2 ["item", "boxes", "names"] s :=
  ⟨f, fd, fn_pure F sc_L_deed_by hl (fun _ _ _ _ _ _ hr => vs_L_deed_by hC hcf fr kn0 hr) hd, hm, F.kp, hb⟩
abbrev s_L_way_by : Stmt := top 22
theorem sc_L_way_by : FnScope ["item", "source", "many", "names", "target", "mode"] ["item", "source", "many", "names"] (defScope s_L_way_by) := ⟨rfl, rfl, rfl, by decide +kernel, rfl, by decide +kernel, by decide +kernel⟩
theorem vs_L_way_by (hC : CsOk K cs) (hcf : ∀ ci ∈ cs, ci.fields = fieldsOf ci.name) (fr : Free mg frees) {f : Addr} {cdv : Value} {A : Around} {outer : List PySem.Env} {sh : Shared} {H : Hp} {E : XK} (hr : Room 0 (A.deeper (envOfC "_law_way_by" (defScope s_L_way_by) sh.heap.objs.size f cdv))) :
    VSs (cxOf CX0 P w K mg base ["item", "source", "many", "names", "target", "mode"] "_law_way_by" (defScope s_L_way_by) f cdv A outer sh H E).nox cs [] (defBody s_L_way_by) (w_L_way_by) :=
  (vss_cons (vs_set 4 (vt_op op_sub od_sub (vp_of (vt_op op_mod od_mod (vp_ix (vp_v 0) (vp_of vt_int)) (vp_of (vt_op op_add5 od_addG (vp_v 2) (vp_of vt_int))))) (vp_of vt_int)) sc_L_way_by.nd) (vss_cons (vs_set 5 vt_str sc_L_way_by.nd) (vss_cons (vs_if (vb_cmp (op_ne2 hr.units) od_ne (vp_v 4) (vp_of (vt_neg (vp_of vt_int))) (nomark _)) (vss_one (vs_set 5 (vt_tk (vp_ix (vp_of (vt_lst (vm_cons vt_str (vm_cons vt_str (vm_cons vt_str vm_nil))))) (vp_of (vt_op op_mod od_mod (vp_of (vt_op op_fdivW od_fdiv (vp_ix (vp_v 0) (vp_of vt_int)) (vp_of vt_int))) (vp_of vt_int))))) sc_L_way_by.nd)) vss_nil) (vss_one (vs_rettup (vm_cons (vt_tk (vp_v 1)) (vm_cons (vt_tk (vp_ix (vp_v 3) (vp_of (vt_op op_mod od_mod (vp_of (vt_op op_fdivW od_fdiv (vp_ix (vp_v 0) (vp_of vt_int)) (vp_of vt_int))) (vp_of (vt_callB call_len cd_len rfl (fr _ (by decide)) boot_more.1 (va_cons (vp_v 3) va_nil))))))) (vm_cons (vt_tup vm_nil) (vm_cons (vt_tup vm_nil) (vm_mv 4 (vm_mv 5 vm_nil)))))))))))
theorem kn_L_way_by (hC : CsOk K cs) (hcf : ∀ ci ∈ cs, ci.fields = fieldsOf ci.name) (fr : Free mg frees) {f : Addr} {fd : FuncData} (F : Fun K "_law_way_by" "_law_way_by" s_L_way_by f fd) (hm : mg "_law_way_by" = some (.ref f)) (hb : Binds K fd ["item", "source", "many", "names"] []) {s : SpD} (hl : ∀ ds Q, s ds Q → ds.length = 4)
    (hd : ∀ ds Q, s ds Q → w_L_way_by { nx := fun _ => Q .non, rt := fun d _ => Q d } (env0 6 ds)) : Kn P w K mg base cs "_law_way_by" 1 ["item", "source", "many", "names"] s :=
  ⟨f, fd, fn_pure F sc_L_way_by hl (fun _ _ _ _ _ _ hr => vs_L_way_by hC hcf fr hr) hd, hm, F.kp, hb⟩
abbrev s_L_ask_by : Stmt := top 23
theorem sc_L_ask_by : FnScope ["item", "boxes", "many", "pick", "one", "other"] ["item", "boxes", "many"] (defScope s_L_ask_by) := ⟨rfl, rfl, rfl, by decide +kernel, rfl, by decide +kernel, by decide +kernel⟩
theorem vs_L_ask_by {sp0 : SpD} (hC : CsOk K cs) (hcf : ∀ ci ∈ cs, ci.fields = fieldsOf ci.name) (fr : Free mg frees) (kn0 : Kn P w K mg base cs "_law_number_by" 1 ["cell"] sp0) {f : Addr} {cdv : Value} {A : Around} {outer : List PySem.Env} {sh : Shared} {H : Hp} {E : XK} (hr : Room 1 (A.deeper (envOfC "_law_ask_by" (defScope s_L_ask_by) sh.heap.objs.size f cdv))) :
    VSs (cxOf CX0 P w K mg base ["item", "boxes", "many", "pick", "one", "other"] "_law_ask_by" (defScope s_L_ask_by) f cdv A outer sh H E).nox cs [] (defBody s_L_ask_by) (w_L_ask_by sp0) :=
  (vss_cons (vs_set 3 (vt_op op_fdivW od_fdiv (vp_ix (vp_v 0) (vp_of vt_int)) (vp_of vt_int)) sc_L_ask_by.nd) (vss_cons (vs_if (vb_cmp op_gt od_cmp (vp_of (vt_op op_mod od_mod (vp_v 3) (vp_of vt_int))) (vp_of vt_int) (nomark _)) (vss_one (vs_ret (vt_tup (vm_cons (vt_tk (vp_ix (vp_of (vt_lst (vm_cons vt_str (vm_cons vt_str vm_nil)))) (vp_of (vt_op op_sub od_sub (vp_of (vt_op op_mod od_mod (vp_v 3) (vp_of vt_int))) (vp_of vt_int))))) (vm_cons (vt_op op_mod od_mod (vp_ix (vp_v 0) (vp_of vt_int)) (vp_v 2)) vm_nil))))) vss_nil) (vss_cons (vs_set 4 (vt_tup (vm_cons (vt_op op_sub od_sub (vp_of (vt_op op_mod od_mod (vp_of (vt_op op_fdivW od_fdiv (vp_v 3) (vp_of vt_int))) (vp_of (vt_op op_add5 od_addG (vp_v 1) (vp_of vt_int))))) (vp_of vt_int)) (vm_cons (vt_fn kn0 (hr.mono (by decide)) rfl (va_cons (vp_ix (vp_v 0) (vp_of vt_int)) va_nil)) vm_nil))) sc_L_ask_by.nd) (vss_cons (vs_set 5 (vt_tup (vm_cons (vt_op op_sub od_sub (vp_of (vt_op op_mod od_mod (vp_of (vt_op op_fdivW od_fdiv (vp_v 3) (vp_of vt_int))) (vp_of (vt_op op_add5 od_addG (vp_v 1) (vp_of vt_int))))) (vp_of vt_int)) (vm_cons (vt_fn kn0 (hr.mono (by decide)) rfl (va_cons (vp_of (vt_op op_mod od_mod (vp_of (vt_op op_mul od_mul (vp_ix (vp_v 0) (vp_of vt_int)) (vp_of vt_int))) (vp_of vt_int))) va_nil)) vm_nil))) sc_L_ask_by.nd) (vss_one (vs_rettup (vm_cons (vt_tk (vp_ix (vp_of (vt_lst (vm_cons vt_str (vm_cons vt_str (vm_cons vt_str (vm_cons vt_str vm_nil)))))) (vp_of (vt_op op_mod od_mod (vp_v 3) (vp_of vt_int))))) (vm_mv 4 (vm_mv 5 vm_nil)))))))))
theorem kn_L_ask_by {sp0 : SpD} (hC : CsOk K cs) (hcf : ∀ ci ∈ cs, ci.fields = fieldsOf ci.name) (fr : Free mg frees) (kn0 : Kn P w K mg base cs "_law_number_by" 1 ["cell"] sp0) {f : Addr} {fd : FuncData} (F : Fun K "_law_ask_by" "_law_ask_by" s_L_ask_by f fd) (hm : mg "_law_ask_by" = some (.ref f)) (hb : Binds K fd ["item", "boxes", "many"] []) {s : SpD} (hl : ∀ ds Q, s ds Q → ds.length = 3)
    (hd : ∀ ds Q, s ds Q → w_L_ask_by sp0 { nx := fun _ => Q .non, rt := fun d _ => Q d } (env0 6 ds)) : Kn P w K mg base cs "_law_ask_by" 2 ["item", "boxes", "many"] s :=
  ⟨f, fd, fn_pure F sc_L_ask_by hl (fun _ _ _ _ _ _ hr => vs_L_ask_by hC hcf fr kn0 hr) hd, hm, F.kp, hb⟩
abbrev s_L_owns_by : Stmt := top 24
theorem sc_L_owns_by : FnScope ["items", "boxes", "many", "names", "ins", "outs", "ways", "item", "kind", "mood", "way"] ["items", "boxes", "many", "names"] (defScope s_L_owns_by) := ⟨rfl, rfl, rfl, by decide +kernel, rfl, by decide +kernel, by decide +kernel⟩
theorem vs_L_owns_by {sp0 : SpD} {sp1 : SpD} {sp2 : SpD} (hC : CsOk K cs) (hcf : ∀ ci ∈ cs, ci.fields = fieldsOf ci.name) (fr : Free mg frees) (kn0 : Kn P w K mg base cs "_law_deed_by" 2 ["item", "boxes", "names"] sp0) (kn1 : Kn P w K mg base cs "_law_way_by" 1 ["item", "source", "many", "names"] sp1) (kn2 : Kn P w K mg base cs "_law_ask_by" 2 ["item", "boxes", "many"] sp2) {f : Addr} {cdv : Value} {A : Around} {outer : List PySem.Env} {sh : Shared} {H : Hp} {E : XK} (hr : Room 2 (A.deeper (envOfC "_law_owns_by" (defScope s_L_owns_by) sh.heap.objs.size f cdv))) :
    VSs (cxOf CX0 P w K mg base ["items", "boxes", "many", "names", "ins", "outs", "ways", "item", "kind", "mood", "way"] "_law_owns_by" (defScope s_L_owns_by) f cdv A outer sh H E).nox cs [] (defBody s_L_owns_by) (w_L_owns_by sp0 sp1 sp2) :=
  (vss_cons (vs_set 4 (vt_lst (vm_cons (vt_tup vm_nil) vm_nil)) sc_L_owns_by.nd) (vss_cons (vs_set 5 (vt_lst (vm_cons (vt_tup vm_nil) vm_nil)) sc_L_owns_by.nd) (vss_cons (vs_set 6 (vt_lst vm_nil) sc_L_owns_by.nd) (vss_cons (vs_for 7 PassesOwn.never rfl (vi_seq (vt_tk (vp_v 0))) sc_L_owns_by.nd (vss_cons (vs_set 8 (vt_op op_mod od_mod (vp_ix (vp_v 7) (vp_of vt_int)) (vp_of vt_int)) sc_L_owns_by.nd) (vss_cons (vs_set 9 (vt_op op_sub od_sub (vp_of (vt_callB call_len cd_len rfl (fr _ (by decide)) boot_more.1 (va_cons (vp_v 4) va_nil))) (vp_of vt_int)) sc_L_owns_by.nd) (vss_one (vs_if (vb_cmp op_lt od_cmp (vp_v 8) (vp_of vt_int) (nomark _)) (vss_cons (vs_app 4 (pe_bm PySem.F.plainAttrs_list PySem.F.slot_list_append PySem.F.type_list_append mt_append (pv 4) (pa_cons (VT.run (vt_tup vm_nil)) pa_nil))) (vss_one (vs_app 5 (pe_bm PySem.F.plainAttrs_list PySem.F.slot_list_append PySem.F.type_list_append mt_append (pv 5) (pa_cons (VT.run (vt_tup vm_nil)) pa_nil))))) (vss_one (vs_if (vb_cmp (op_eq2 hr.units) od_eq (vp_v 8) (vp_of vt_int) (nomark _)) (vss_one (vs_pset (vt_op op_add6 od_addA (vp_ix (vp_v 4) (vp_v 9)) (vp_of (vt_tup (vm_cons (vt_fn kn0 (hr.mono (by decide)) rfl (va_cons (vp_v 7) (va_cons (vp_v 1) (va_cons (vp_v 3) va_nil)))) vm_nil)))) (pa_v 4) (vp_v 9))) (vss_one (vs_if (vb_cmp (op_eq2 hr.units) od_eq (vp_v 8) (vp_of vt_int) (nomark _)) (vss_one (vs_pset (vt_op op_add6 od_addA (vp_ix (vp_v 5) (vp_v 9)) (vp_of (vt_tup (vm_cons (vt_fn kn0 (hr.mono (by decide)) rfl (va_cons (vp_v 7) (va_cons (vp_v 1) (va_cons (vp_v 3) va_nil)))) vm_nil)))) (pa_v 5) (vp_v 9))) (vss_one (vs_if (VW.vb (vw_or (vb_cmp (op_eq2 hr.units) od_eq (vp_v 8) (vp_of vt_int) (nomark _)) (vw_or (vb_cmp (op_eq2 hr.units) od_eq (vp_v 6) (vp_of (vt_lst vm_nil)) (nomark _)) (vw_or1 (vb_cmp (op_ne2 hr.units) od_ne (vp_ix (vp_ix (vp_v 6) (vp_of (vt_neg (vp_of vt_int)))) (vp_of vt_int)) (vp_v 9) (nomark _)))))) (vss_one (vs_app 6 (pe_bm PySem.F.plainAttrs_list PySem.F.slot_list_append PySem.F.type_list_append mt_append (pv 6) (pa_cons (VT.run (vt_fn kn1 (hr.mono (by decide)) rfl (va_cons (vp_v 7) (va_cons (vp_v 9) (va_cons (vp_v 2) (va_cons (vp_v 3) va_nil)))))) pa_nil)))) (vss_one (vs_if (vb_cmp (op_eq2 hr.units) od_eq (vp_v 8) (vp_of vt_int) (nomark _)) (vss_cons (vs_set 10 (vt_tk (vp_ix (vp_v 6) (vp_of (vt_neg (vp_of vt_int))))) sc_L_owns_by.nd) (vss_one (vs_pset (vt_op op_add6 od_addA (vp_of (vt_op op_add6 od_addA (vp_of (vt_sl (vp_v 10) vo_no (vo_some (vp_of vt_int)))) (vp_of (vt_tup (vm_cons (vt_op op_add6 od_addA (vp_ix (vp_v 10) (vp_of vt_int)) (vp_of (vt_tup (vm_cons (vt_fn kn2 (hr.mono (by decide)) rfl (va_cons (vp_v 7) (va_cons (vp_v 1) (va_cons (vp_v 2) va_nil)))) vm_nil)))) vm_nil))))) (vp_of (vt_sl (vp_v 10) (vo_some (vp_of vt_int)) vo_no))) (pa_v 6) (vp_of (vt_neg (vp_of vt_int)))))) (vss_cons (vs_set 10 (vt_tk (vp_ix (vp_v 6) (vp_of (vt_neg (vp_of vt_int))))) sc_L_owns_by.nd) (vss_one (vs_pset (vt_op op_add6 od_addA (vp_of (vt_op op_add6 od_addA (vp_of (vt_sl (vp_v 10) vo_no (vo_some (vp_of vt_int)))) (vp_of (vt_tup (vm_cons (vt_op op_add6 od_addA (vp_ix (vp_v 10) (vp_of vt_int)) (vp_of (vt_tup (vm_cons (vt_fn kn0 (hr.mono (by decide)) rfl (va_cons (vp_v 7) (va_cons (vp_v 1) (va_cons (vp_v 3) va_nil)))) vm_nil)))) vm_nil))))) (vp_of (vt_sl (vp_v 10) (vo_some (vp_of vt_int)) vo_no))) (pa_v 6) (vp_of (vt_neg (vp_of vt_int))))))))))))))))))) (vss_one (vs_retlst (vm_mv 4 (vm_mv 5 (vm_mv 6 vm_nil)))))))))
theorem kn_L_owns_by {sp0 : SpD} {sp1 : SpD} {sp2 : SpD} (hC : CsOk K cs) (hcf : ∀ ci ∈ cs, ci.fields = fieldsOf ci.name) (fr : Free mg frees) (kn0 : Kn P w K mg base cs "_law_deed_by" 2 ["item", "boxes", "names"] sp0) (kn1 : Kn P w K mg base cs "_law_way_by" 1 ["item", "source", "many", "names"] sp1) (kn2 : Kn P w K mg base cs "_law_ask_by" 2 ["item", "boxes", "many"] sp2) {f : Addr} {fd : FuncData} (F : Fun K "_law_owns_by" "_law_owns_by" s_L_owns_by f fd) (hm : mg "_law_owns_by" = some (.ref f)) (hb : Binds K fd ["items", "boxes", "many", "names"] []) {s : SpD} (hl : ∀ ds Q, s ds Q → ds.length = 4)
    (hd : ∀ ds Q, s ds Q → w_L_owns_by sp0 sp1 sp2 { nx := fun _ => Q .non, rt := fun d _ => Q d } (env0 11 ds)) : Kn P w K mg base cs "_law_owns_by" 3 ["items", "boxes", "many", "names"] s :=
  ⟨f, fd, fn_pure F sc_L_owns_by hl (fun _ _ _ _ _ _ hr => vs_L_owns_by hC hcf fr kn0 kn1 kn2 hr) hd, hm, F.kp, hb⟩
abbrev s_L_parts_by : Stmt := top 26
theorem sc_L_parts_by : FnScope ["script", "head", "items", "k", "elders", "names", "boxes", "shapes", "item", "owns"] ["script"] (defScope s_L_parts_by) := ⟨rfl, rfl, rfl, by decide +kernel, rfl, by decide +kernel, by decide +kernel⟩
theorem vs_L_parts_by {sp0 : SpD} {sp1 : SpD} {sp2 : SpD} {sp3 : SpD} {sp4 : SpD} {sp5 : SpD} (hC : CsOk K cs) (hcf : ∀ ci ∈ cs, ci.fields = fieldsOf ci.name) (fr : Free mg frees) (kn0 : Kn P w K mg base cs "_law_cell_at" 1 ["script", "k"] sp0) (kn1 : Kn P w K mg base cs "_law_elders_by" 2 ["items"] sp1) (kn2 : Kn P w K mg base cs "_law_names_by" 2 ["script", "many"] sp2) (kn3 : Kn P w K mg base cs "_law_number_by" 1 ["cell"] sp3) (kn4 : Kn P w K mg base cs "_law_kinds_by" 1 ["elders", "cells"] sp4) (kn5 : Kn P w K mg base cs "_law_owns_by" 3 ["items", "boxes", "many", "names"] sp5) {f : Addr} {cdv : Value} {A : Around} {outer : List PySem.Env} {sh : Shared} {H : Hp} {E : XK} (hr : Room 3 (A.deeper (envOfC "_law_parts_by" (defScope s_L_parts_by) sh.heap.objs.size f cdv))) :
    VSs (cxOf CX0 P w K mg base ["script", "head", "items", "k", "elders", "names", "boxes", "shapes", "item", "owns"] "_law_parts_by" (defScope s_L_parts_by) f cdv A outer sh H E).nox cs [] (defBody s_L_parts_by) (w_L_parts_by sp0 sp1 sp2 sp3 sp4 sp5) :=
  (vss_cons (vs_set 1 (vt_op op_fdivW od_fdiv (vp_of (vt_fn kn0 (hr.mono (by decide)) rfl (va_cons (vp_v 0) (va_cons (vp_of vt_int) va_nil)))) (vp_of vt_int)) sc_L_parts_by.nd) (vss_cons (vs_setLc 2 3 rfl sc_L_parts_by.nd rfl rfl (sw_true rfl rfl rfl (by decide +kernel)) (vi_rng3 rfl (fr _ (by decide)) (va_cons (vp_of vt_int) (va_cons (vp_of (vt_callB (call_min2 rfl) cd_i2 rfl (fr _ (by decide)) boot_more.2.1 (va_cons (vp_of (vt_callB call_len cd_len rfl (fr _ (by decide)) boot_more.1 (va_cons (vp_v 0) va_nil))) (va_cons (vp_of vt_int) va_nil)))) (va_cons (vp_of vt_int) va_nil)))) (blkOk_by (N := ["script", "head", "items", "k", "elders", "names", "boxes", "shapes", "item", "owns"]) (sc := defScope s_L_parts_by) (by decide +kernel)) (fun _ _ _ _ _ => pg_name sc_L_parts_by.nd rfl (Or.inl rfl)) (fun _ _ _ _ _ => vts_nil) (fun _ _ _ _ _ => (vt_tup (vm_cons (vt_tk (vp_ix (vp_v 0) (vp_v 3))) (vm_cons (vt_fn kn0 (hr.mono (by decide)) rfl (va_cons (vp_v 0) (va_cons (vp_of (vt_op op_add5 od_addG (vp_v 3) (vp_of vt_int))) va_nil))) vm_nil))))) (vss_cons (vs_set 4 (vt_fn kn1 (hr.mono (by decide)) rfl (va_cons (vp_v 2) va_nil)) sc_L_parts_by.nd) (vss_cons (vs_set 5 (vt_fn kn2 (hr.mono (by decide)) rfl (va_cons (vp_v 0) (va_cons (vp_of (vt_op op_add5 od_addG (vp_of (vt_callB call_len cd_len rfl (fr _ (by decide)) boot_more.1 (va_cons (vp_v 4) va_nil))) (vp_of vt_int))) va_nil))) sc_L_parts_by.nd) (vss_cons (vs_setLc 6 3 rfl sc_L_parts_by.nd rfl rfl (sw_true rfl rfl rfl (by decide +kernel)) (vi_rng1 rfl (fr _ (by decide)) (va_cons (vp_of (vt_op op_mod od_mod (vp_v 1) (vp_of vt_int))) va_nil)) (blkOk_by (N := ["script", "head", "items", "k", "elders", "names", "boxes", "shapes", "item", "owns"]) (sc := defScope s_L_parts_by) (by decide +kernel)) (fun _ _ _ _ _ => pg_name sc_L_parts_by.nd rfl (Or.inl rfl)) (fun _ _ _ _ _ => vts_nil) (fun _ _ _ _ _ => (vt_tup (vm_cons (vt_tk (vp_ix (vp_v 5) (vp_v 3))) (vm_cons (vt_fn kn3 (hr.mono (by decide)) rfl (va_cons (vp_of (vt_fn kn0 (hr.mono (by decide)) rfl (va_cons (vp_v 0) (va_cons (vp_of (vt_op op_add5 od_addG (vp_of vt_int) (vp_of (vt_op op_mul od_mul (vp_of vt_int) (vp_v 3))))) va_nil)))) va_nil)) vm_nil))))) (vss_cons (vs_frz 2 (vs_set 7 (vt_fn kn4 (hr.mono (by decide)) rfl (va_cons (vp_v 4) (va_cons (vp_of (vt_op op_add5 od_addG (vp_frzv (vt_lst (vm_cons (vt_op op_fdivW od_fdiv (vp_v 1) (vp_of vt_int)) vm_nil))) (vp_of (vt_lc 8 rfl sc_L_parts_by.nd (vi_seq (vt_tk (vp_v 2))) (blkOk_by (N := ["script", "head", "items", "k", "elders", "names", "boxes", "shapes", "item", "owns"]) (sc := defScope s_L_parts_by) (by decide +kernel)) (fun _ _ _ _ _ => pg_name sc_L_parts_by.nd rfl (Or.inl rfl)) (fun _ _ _ _ _ => (vts_one (vb_cmp op_lt od_cmp (vp_of (vt_op op_mod od_mod (vp_ix (vp_v 8) (vp_of vt_int)) (vp_of vt_int))) (vp_of vt_int) (nomark _)))) (fun _ _ _ _ _ => (vt_tk (vp_ix (vp_v 8) (vp_of vt_int)))))))) va_nil))) sc_L_parts_by.nd)) (vss_cons (vs_set 9 (vt_fn kn5 (hr.mono (by decide)) rfl (va_cons (vp_v 2) (va_cons (vp_of (vt_callB call_len cd_len rfl (fr _ (by decide)) boot_more.1 (va_cons (vp_v 6) va_nil))) (va_cons (vp_of (vt_callB call_len cd_len rfl (fr _ (by decide)) boot_more.1 (va_cons (vp_v 4) va_nil))) (va_cons (vp_v 5) va_nil))))) sc_L_parts_by.nd) (vss_one (vs_frz 9 (vs_frz 4 (vs_frz 7 (vs_frz 5 (vs_frz 6 (vs_ret (vt_op op_add5 od_addG (vp_frzv (vt_lst (vm_cons (vt_tk (vp_v 6)) (vm_cons (vt_sl (vp_v 5) vo_no (vo_some (vp_of (vt_callB call_len cd_len rfl (fr _ (by decide)) boot_more.1 (va_cons (vp_v 4) va_nil))))) (vm_cons (vt_tk (vp_ix (vp_v 7) (vp_of vt_int))) (vm_cons (vt_tk (vp_v 4)) (vm_cons (vt_tk (vp_ix (vp_v 7) (vp_of vt_int))) vm_nil))))))) (vp_v 9))))))))))))))))
theorem kn_L_parts_by {sp0 : SpD} {sp1 : SpD} {sp2 : SpD} {sp3 : SpD} {sp4 : SpD} {sp5 : SpD} (hC : CsOk K cs) (hcf : ∀ ci ∈ cs, ci.fields = fieldsOf ci.name) (fr : Free mg frees) (kn0 : Kn P w K mg base cs "_law_cell_at" 1 ["script", "k"] sp0) (kn1 : Kn P w K mg base cs "_law_elders_by" 2 ["items"] sp1) (kn2 : Kn P w K mg base cs "_law_names_by" 2 ["script", "many"] sp2) (kn3 : Kn P w K mg base cs "_law_number_by" 1 ["cell"] sp3) (kn4 : Kn P w K mg base cs "_law_kinds_by" 1 ["elders", "cells"] sp4) (kn5 : Kn P w K mg base cs "_law_owns_by" 3 ["items", "boxes", "many", "names"] sp5) {f : Addr} {fd : FuncData} (F : Fun K "_law_parts_by" "_law_parts_by" s_L_parts_by f fd) (hm : mg "_law_parts_by" = some (.ref f)) (hb : Binds K fd ["script"] []) {s : SpD} (hl : ∀ ds Q, s ds Q → ds.length = 1)
    (hd : ∀ ds Q, s ds Q → w_L_parts_by sp0 sp1 sp2 sp3 sp4 sp5 { nx := fun _ => Q .non, rt := fun d _ => Q d } (env0 10 ds)) : Kn P w K mg base cs "_law_parts_by" 4 ["script"] s :=
  ⟨f, fd, fn_pure F sc_L_parts_by hl (fun _ _ _ _ _ _ hr => vs_L_parts_by hC hcf fr kn0 kn1 kn2 kn3 kn4 kn5 hr) hd, hm, F.kp, hb⟩
abbrev s_Tree_init : Stmt := inClass (top 1) 0
theorem sc_Tree_init : FnScope ["self", "kinds", "elders", "starts"] ["self", "kinds", "elders", "starts"] (defScope s_Tree_init) := ⟨rfl, rfl, rfl, by decide +kernel, rfl, by decide +kernel, by decide +kernel⟩
theorem vs_Tree_init (hC : CsOk K cs) (hcf : ∀ ci ∈ cs, ci.fields = fieldsOf ci.name) (fr : Free mg frees) {f : Addr} {cdv : Value} {A : Around} {outer : List PySem.Env} {sh : Shared} {H : Hp} {E : XK} (hr : Room 0 (A.deeper (envOfC "Tree.__init__" (defScope s_Tree_init) sh.heap.objs.size f cdv))) :
    VSs (cxOf CX0 P w K mg base ["self", "kinds", "elders", "starts"] "Tree.__init__" (defScope s_Tree_init) f cdv A outer sh H E).nox cs [0] (defBody s_Tree_init) (w_Tree_init) :=
  (vss_cons (vs_fset hC hcf (vt_callTy call_list_of cd_list rfl (fr _ (by decide)) boot_tys.2.2.2.1 (va_cons (vp_v 1) va_nil)) (pa_v 0)) (vss_cons (vs_fset hC hcf (vt_callTy call_list_of cd_list rfl (fr _ (by decide)) boot_tys.2.2.2.1 (va_cons (vp_v 2) va_nil)) (pa_v 0)) (vss_one (vs_fset hC hcf (vt_callTy call_list_of cd_list rfl (fr _ (by decide)) boot_tys.2.2.2.1 (va_cons (vp_v 3) va_nil)) (pa_v 0)))))
theorem kn_Tree_init (hC : CsOk K cs) (hcf : ∀ ci ∈ cs, ci.fields = fieldsOf ci.name) (fr : Free mg frees) {f C : Addr} {fd : FuncData} {ci : CI} (F : Fun K "__init__" "Tree.__init__" s_Tree_init f fd) (M : Mk K C f) (hm : mg "Tree" = some (.ref C)) (hb : Binds K fd ["self", "kinds", "elders", "starts"] []) (mem : ci ∈ cs) (nm : ci.name = "Tree") (ad : ci.addr = C) {s : SpM} (hl : ∀ ds Q, s ds Q → ds.length = 4)
    (hd : ∀ ds Q, s ds Q → w_Tree_init { nx := fun env => ∃ ds', backD [0] env 0 ds = some ds' ∧ Q .non ds', rt := fun d env => ∃ ds', backD [0] env 0 ds = some ds' ∧ Q d ds' } (env0 4 ds)) : KnC P w K mg base cs "Tree" 1 ["self", "kinds", "elders", "starts"] s :=
  ⟨C, f, fd, ci, M, fn_io [0] F sc_Tree_init hl (fun _ _ _ _ _ _ hr => vs_Tree_init hC hcf fr hr) hd, hm, hb, mem, nm, ad⟩
abbrev s_Chart_init : Stmt := inClass (top 13) 0
theorem sc_Chart_init : FnScope ["self", "boxes", "names", "tree", "ins", "outs", "ways"] ["self", "boxes", "names", "tree", "ins", "outs", "ways"] (defScope s_Chart_init) := ⟨rfl, rfl, rfl, by decide +kernel, rfl, by decide +kernel, by decide +kernel⟩
theorem vs_Chart_init {sp0 : SpM} (hC : CsOk K cs) (hcf : ∀ ci ∈ cs, ci.fields = fieldsOf ci.name) (fr : Free mg frees) (kn0 : KnC P w K mg base cs "Tree" 1 ["self", "kinds", "elders", "starts"] sp0) {f : Addr} {cdv : Value} {A : Around} {outer : List PySem.Env} {sh : Shared} {H : Hp} {E : XK} (hr : Room 2 (A.deeper (envOfC "Chart.__init__" (defScope s_Chart_init) sh.heap.objs.size f cdv))) :
    VSs (cxOf CX0 P w K mg base ["self", "boxes", "names", "tree", "ins", "outs", "ways"] "Chart.__init__" (defScope s_Chart_init) f cdv A outer sh H E).nox cs [0] (defBody s_Chart_init) (w_Chart_init sp0) :=
  (vss_cons (vs_fset hC hcf (vt_callTy call_list_of cd_list rfl (fr _ (by decide)) boot_tys.2.2.2.1 (va_cons (vp_v 1) va_nil)) (pa_v 0)) (vss_cons (vs_fset hC hcf (vt_callTy call_list_of cd_list rfl (fr _ (by decide)) boot_tys.2.2.2.1 (va_cons (vp_v 2) va_nil)) (pa_v 0)) (vss_cons (vs_fset hC hcf (vt_make kn0 (hr.mono (by decide)) rfl (va_cons (vp_fld hC (vp_v 3)) (va_cons (vp_fld hC (vp_v 3)) (va_cons (vp_fld hC (vp_v 3)) va_nil)))) (pa_v 0)) (vss_cons (vs_fset hC hcf (vt_callTy call_list_of cd_list rfl (fr _ (by decide)) boot_tys.2.2.2.1 (va_cons (vp_v 4) va_nil)) (pa_v 0)) (vss_cons (vs_fset hC hcf (vt_callTy call_list_of cd_list rfl (fr _ (by decide)) boot_tys.2.2.2.1 (va_cons (vp_v 5) va_nil)) (pa_v 0)) (vss_one (vs_fset hC hcf (vt_callTy call_list_of cd_list rfl (fr _ (by decide)) boot_tys.2.2.2.1 (va_cons (vp_v 6) va_nil)) (pa_v 0))))))))
theorem kn_Chart_init {sp0 : SpM} (hC : CsOk K cs) (hcf : ∀ ci ∈ cs, ci.fields = fieldsOf ci.name) (fr : Free mg frees) (kn0 : KnC P w K mg base cs "Tree" 1 ["self", "kinds", "elders", "starts"] sp0) {f C : Addr} {fd : FuncData} {ci : CI} (F : Fun K "__init__" "Chart.__init__" s_Chart_init f fd) (M : Mk K C f) (hm : mg "Chart" = some (.ref C)) (hb : Binds K fd ["self", "boxes", "names", "tree", "ins", "outs", "ways"] []) (mem : ci ∈ cs) (nm : ci.name = "Chart") (ad : ci.addr = C) {s : SpM} (hl : ∀ ds Q, s ds Q → ds.length = 7)
    (hd : ∀ ds Q, s ds Q → w_Chart_init sp0 { nx := fun env => ∃ ds', backD [0] env 0 ds = some ds' ∧ Q .non ds', rt := fun d env => ∃ ds', backD [0] env 0 ds = some ds' ∧ Q d ds' } (env0 7 ds)) : KnC P w K mg base cs "Chart" 3 ["self", "boxes", "names", "tree", "ins", "outs", "ways"] s :=
  ⟨C, f, fd, ci, M, fn_io [0] F sc_Chart_init hl (fun _ _ _ _ _ _ hr => vs_Chart_init hC hcf fr kn0 hr) hd, hm, hb, mem, nm, ad⟩
abbrev s_L_chart_by : Stmt := top 27
theorem sc_L_chart_by : FnScope ["parts", "tree"] ["parts"] (defScope s_L_chart_by) := ⟨rfl, rfl, rfl, by decide +kernel, rfl, by decide +kernel, by decide +kernel⟩
theorem vs_L_chart_by {sp0 : SpM} {sp1 : SpM} (hC : CsOk K cs) (hcf : ∀ ci ∈ cs, ci.fields = fieldsOf ci.name) (fr : Free mg frees) (kn0 : KnC P w K mg base cs "Tree" 1 ["self", "kinds", "elders", "starts"] sp0) (kn1 : KnC P w K mg base cs "Chart" 3 ["self", "boxes", "names", "tree", "ins", "outs", "ways"] sp1) {f : Addr} {cdv : Value} {A : Around} {outer : List PySem.Env} {sh : Shared} {H : Hp} {E : XK} (hr : Room 4 (A.deeper (envOfC "_law_chart_by" (defScope s_L_chart_by) sh.heap.objs.size f cdv))) :
    VSs (cxOf CX0 P w K mg base ["parts", "tree"] "_law_chart_by" (defScope s_L_chart_by) f cdv A outer sh H E).nox cs [] (defBody s_L_chart_by) (w_L_chart_by sp0 sp1) :=
  (vss_cons (vs_set 1 (vt_make kn0 (hr.mono (by decide)) rfl (va_cons (vp_of (vt_callTy call_list_of cd_list rfl (fr _ (by decide)) boot_tys.2.2.2.1 (va_cons (vp_ix (vp_v 0) (vp_of vt_int)) va_nil))) (va_cons (vp_of (vt_callTy call_list_of cd_list rfl (fr _ (by decide)) boot_tys.2.2.2.1 (va_cons (vp_ix (vp_v 0) (vp_of vt_int)) va_nil))) (va_cons (vp_of (vt_callTy call_list_of cd_list rfl (fr _ (by decide)) boot_tys.2.2.2.1 (va_cons (vp_ix (vp_v 0) (vp_of vt_int)) va_nil))) va_nil)))) sc_L_chart_by.nd) (vss_one (vs_ret (vt_make kn1 (hr.mono (by decide)) rfl (va_cons (vp_of (vt_callTy call_list_of cd_list rfl (fr _ (by decide)) boot_tys.2.2.2.1 (va_cons (vp_ix (vp_v 0) (vp_of vt_int)) va_nil))) (va_cons (vp_of (vt_callTy call_list_of cd_list rfl (fr _ (by decide)) boot_tys.2.2.2.1 (va_cons (vp_ix (vp_v 0) (vp_of vt_int)) va_nil))) (va_cons (vp_v 1) (va_cons (vp_of (vt_callTy call_list_of cd_list rfl (fr _ (by decide)) boot_tys.2.2.2.1 (va_cons (vp_ix (vp_v 0) (vp_of vt_int)) va_nil))) (va_cons (vp_of (vt_callTy call_list_of cd_list rfl (fr _ (by decide)) boot_tys.2.2.2.1 (va_cons (vp_ix (vp_v 0) (vp_of vt_int)) va_nil))) (va_cons (vp_of (vt_callTy call_list_of cd_list rfl (fr _ (by decide)) boot_tys.2.2.2.1 (va_cons (vp_ix (vp_v 0) (vp_of vt_int)) va_nil))) va_nil))))))))))
theorem kn_L_chart_by {sp0 : SpM} {sp1 : SpM} (hC : CsOk K cs) (hcf : ∀ ci ∈ cs, ci.fields = fieldsOf ci.name) (fr : Free mg frees) (kn0 : KnC P w K mg base cs "Tree" 1 ["self", "kinds", "elders", "starts"] sp0) (kn1 : KnC P w K mg base cs "Chart" 3 ["self", "boxes", "names", "tree", "ins", "outs", "ways"] sp1) {f : Addr} {fd : FuncData} (F : Fun K "_law_chart_by" "_law_chart_by" s_L_chart_by f fd) (hm : mg "_law_chart_by" = some (.ref f)) (hb : Binds K fd ["parts"] []) {s : SpD} (hl : ∀ ds Q, s ds Q → ds.length = 1)
    (hd : ∀ ds Q, s ds Q → w_L_chart_by sp0 sp1 { nx := fun _ => Q .non, rt := fun d _ => Q d } (env0 2 ds)) : Kn P w K mg base cs "_law_chart_by" 5 ["parts"] s :=
  ⟨f, fd, fn_pure F sc_L_chart_by hl (fun _ _ _ _ _ _ hr => vs_L_chart_by hC hcf fr kn0 kn1 hr) hd, hm, F.kp, hb⟩
abbrev s_term_text : Stmt := top 5
theorem sc_term_text : FnScope ["chart", "term", "name"] ["chart", "term"] (defScope s_term_text) := ⟨rfl, rfl, rfl, by decide +kernel, rfl, by decide +kernel, by decide +kernel⟩
theorem vs_term_text (hC : CsOk K cs) (hcf : ∀ ci ∈ cs, ci.fields = fieldsOf ci.name) (fr : Free mg frees) {f : Addr} {cdv : Value} {A : Around} {outer : List PySem.Env} {sh : Shared} {H : Hp} {E : XK} (hr : Room 0 (A.deeper (envOfC "term_text" (defScope s_term_text) sh.heap.objs.size f cdv))) :
    VSs (cxOf CX0 P w K mg base ["chart", "term", "name"] "term_text" (defScope s_term_text) f cdv A outer sh H E).nox cs [] (defBody s_term_text) (w_term_text) :=
  (vss_cons (vs_if (vb_cmp (op_eq2 hr.units) od_eq (vp_ix (vp_v 1) (vp_of vt_int)) (vp_of (vt_neg (vp_of vt_int))) (nomark _)) (vss_one (vs_ret (vt_callTy call_str_int cd_str rfl (fr _ (by decide)) boot_tys.2.2.1 (va_cons (vp_ix (vp_v 1) (vp_of vt_int)) va_nil)))) vss_nil) (vss_cons (vs_set 2 (vt_tk (vp_ix (vp_ix (vp_fld hC (vp_v 0)) (vp_ix (vp_v 1) (vp_of vt_int))) (vp_of vt_int))) sc_term_text.nd) (vss_cons (vs_if (vb_cmp op_gt od_cmp (vp_ix (vp_v 1) (vp_of vt_int)) (vp_of vt_int) (nomark _)) (vss_one (vs_ret (vt_op op_add5 od_addG (vp_of (vt_op op_add5 od_addG (vp_v 2) (vp_of vt_str))) (vp_of (vt_callTy call_str_int cd_str rfl (fr _ (by decide)) boot_tys.2.2.1 (va_cons (vp_ix (vp_v 1) (vp_of vt_int)) va_nil)))))) vss_nil) (vss_cons (vs_if (vb_cmp op_lt od_cmp (vp_ix (vp_v 1) (vp_of vt_int)) (vp_of vt_int) (nomark _)) (vss_one (vs_ret (vt_op op_add5 od_addG (vp_v 2) (vp_of (vt_callTy call_str_int cd_str rfl (fr _ (by decide)) boot_tys.2.2.1 (va_cons (vp_ix (vp_v 1) (vp_of vt_int)) va_nil)))))) vss_nil) (vss_one (vs_retv 2))))))
theorem kn_term_text (hC : CsOk K cs) (hcf : ∀ ci ∈ cs, ci.fields = fieldsOf ci.name) (fr : Free mg frees) {f : Addr} {fd : FuncData} (F : Fun K "term_text" "term_text" s_term_text f fd) (hm : mg "term_text" = some (.ref f)) (hb : Binds K fd ["chart", "term"] []) {s : SpD} (hl : ∀ ds Q, s ds Q → ds.length = 2)
    (hd : ∀ ds Q, s ds Q → w_term_text { nx := fun _ => Q .non, rt := fun d _ => Q d } (env0 3 ds)) : Kn P w K mg base cs "term_text" 1 ["chart", "term"] s :=
  ⟨f, fd, fn_pure F sc_term_text hl (fun _ _ _ _ _ _ hr => vs_term_text hC hcf fr hr) hd, hm, F.kp, hb⟩
abbrev s_deed_text : Stmt := top 6
theorem sc_deed_text : FnScope ["chart", "deed"] ["chart", "deed"] (defScope s_deed_text) := ⟨rfl, rfl, rfl, by decide +kernel, rfl, by decide +kernel, by decide +kernel⟩
theorem vs_deed_text {sp0 : SpD} (hC : CsOk K cs) (hcf : ∀ ci ∈ cs, ci.fields = fieldsOf ci.name) (fr : Free mg frees) (kn0 : Kn P w K mg base cs "term_text" 1 ["chart", "term"] sp0) {f : Addr} {cdv : Value} {A : Around} {outer : List PySem.Env} {sh : Shared} {H : Hp} {E : XK} (hr : Room 1 (A.deeper (envOfC "deed_text" (defScope s_deed_text) sh.heap.objs.size f cdv))) :
    VSs (cxOf CX0 P w K mg base ["chart", "deed"] "deed_text" (defScope s_deed_text) f cdv A outer sh H E).nox cs [] (defBody s_deed_text) (w_deed_text sp0) :=
  (vss_cons (vs_if (vb_cmp (op_eq2 hr.units) od_eq (vp_ix (vp_v 1) (vp_of vt_int)) (vp_of vt_str) (nomark _)) (vss_one (vs_ret (vt_op op_add5 od_addG (vp_of (vt_op op_add5 od_addG (vp_of (vt_op op_add5 od_addG (vp_of vt_str) (vp_ix (vp_ix (vp_fld hC (vp_v 0)) (vp_ix (vp_v 1) (vp_of vt_int))) (vp_of vt_int)))) (vp_of vt_str))) (vp_of (vt_fn kn0 (hr.mono (by decide)) rfl (va_cons (vp_v 0) (va_cons (vp_ix (vp_v 1) (vp_of vt_int)) va_nil))))))) vss_nil) (vss_cons (vs_if (vb_cmp (op_eq2 hr.units) od_eq (vp_ix (vp_v 1) (vp_of vt_int)) (vp_of vt_str) (nomark _)) (vss_one (vs_ret (vt_op op_add5 od_addG (vp_of (vt_op op_add5 od_addG (vp_of (vt_op op_add5 od_addG (vp_of vt_str) (vp_ix (vp_v 1) (vp_of vt_int)))) (vp_of vt_str))) (vp_of (vt_fn kn0 (hr.mono (by decide)) rfl (va_cons (vp_v 0) (va_cons (vp_ix (vp_v 1) (vp_of vt_int)) va_nil))))))) vss_nil) (vss_one (vs_ret (vt_op op_add5 od_addG (vp_of vt_str) (vp_ix (vp_v 1) (vp_of vt_int)))))))
theorem kn_deed_text {sp0 : SpD} (hC : CsOk K cs) (hcf : ∀ ci ∈ cs, ci.fields = fieldsOf ci.name) (fr : Free mg frees) (kn0 : Kn P w K mg base cs "term_text" 1 ["chart", "term"] sp0) {f : Addr} {fd : FuncData} (F : Fun K "deed_text" "deed_text" s_deed_text f fd) (hm : mg "deed_text" = some (.ref f)) (hb : Binds K fd ["chart", "deed"] []) {s : SpD} (hl : ∀ ds Q, s ds Q → ds.length = 2)
    (hd : ∀ ds Q, s ds Q → w_deed_text sp0 { nx := fun _ => Q .non, rt := fun d _ => Q d } (env0 2 ds)) : Kn P w K mg base cs "deed_text" 2 ["chart", "deed"] s :=
  ⟨f, fd, fn_pure F sc_deed_text hl (fun _ _ _ _ _ _ hr => vs_deed_text hC hcf fr kn0 hr) hd, hm, F.kp, hb⟩
abbrev s_ask_text : Stmt := top 7
theorem sc_ask_text : FnScope ["chart", "ask"] ["chart", "ask"] (defScope s_ask_text) := ⟨rfl, rfl, rfl, by decide +kernel, rfl, by decide +kernel, by decide +kernel⟩
theorem vs_ask_text {sp0 : SpD} (hC : CsOk K cs) (hcf : ∀ ci ∈ cs, ci.fields = fieldsOf ci.name) (fr : Free mg frees) (kn0 : Kn P w K mg base cs "term_text" 1 ["chart", "term"] sp0) {f : Addr} {cdv : Value} {A : Around} {outer : List PySem.Env} {sh : Shared} {H : Hp} {E : XK} (hr : Room 1 (A.deeper (envOfC "ask_text" (defScope s_ask_text) sh.heap.objs.size f cdv))) :
    VSs (cxOf CX0 P w K mg base ["chart", "ask"] "ask_text" (defScope s_ask_text) f cdv A outer sh H E).nox cs [] (defBody s_ask_text) (w_ask_text sp0) :=
  (vss_cons (vs_if (vb_cmp op_in2 od_in (vp_ix (vp_v 1) (vp_of vt_int)) (vp_of (vt_tup (vm_cons vt_str (vm_cons vt_str vm_nil)))) (by rfl)) (vss_one (vs_ret (vt_op op_add5 od_addG (vp_of (vt_op op_add5 od_addG (vp_ix (vp_v 1) (vp_of vt_int)) (vp_of vt_str))) (vp_ix (vp_fld hC (vp_v 0)) (vp_ix (vp_v 1) (vp_of vt_int)))))) vss_nil) (vss_one (vs_ret (vt_op op_add5 od_addG (vp_of (vt_op op_add5 od_addG (vp_of (vt_op op_add5 od_addG (vp_of (vt_op op_add5 od_addG (vp_of (vt_fn kn0 (hr.mono (by decide)) rfl (va_cons (vp_v 0) (va_cons (vp_ix (vp_v 1) (vp_of vt_int)) va_nil)))) (vp_of vt_str))) (vp_ix (vp_v 1) (vp_of vt_int)))) (vp_of vt_str))) (vp_of (vt_fn kn0 (hr.mono (by decide)) rfl (va_cons (vp_v 0) (va_cons (vp_ix (vp_v 1) (vp_of vt_int)) va_nil))))))))
theorem kn_ask_text {sp0 : SpD} (hC : CsOk K cs) (hcf : ∀ ci ∈ cs, ci.fields = fieldsOf ci.name) (fr : Free mg frees) (kn0 : Kn P w K mg base cs "term_text" 1 ["chart", "term"] sp0) {f : Addr} {fd : FuncData} (F : Fun K "ask_text" "ask_text" s_ask_text f fd) (hm : mg "ask_text" = some (.ref f)) (hb : Binds K fd ["chart", "ask"] []) {s : SpD} (hl : ∀ ds Q, s ds Q → ds.length = 2)
    (hd : ∀ ds Q, s ds Q → w_ask_text sp0 { nx := fun _ => Q .non, rt := fun d _ => Q d } (env0 2 ds)) : Kn P w K mg base cs "ask_text" 2 ["chart", "ask"] s :=
  ⟨f, fd, fn_pure F sc_ask_text hl (fun _ _ _ _ _ _ hr => vs_ask_text hC hcf fr kn0 hr) hd, hm, F.kp, hb⟩
abbrev s_way_text : Stmt := top 8
theorem sc_way_text : FnScope ["chart", "way", "row", "ask", "deed"] ["chart", "way"] (defScope s_way_text) := ⟨rfl, rfl, rfl, by decide +kernel, rfl, by decide +kernel, by decide +kernel⟩
theorem vs_way_text {sp0 : SpD} {sp1 : SpD} (hC : CsOk K cs) (hcf : ∀ ci ∈ cs, ci.fields = fieldsOf ci.name) (fr : Free mg frees) (kn0 : Kn P w K mg base cs "ask_text" 2 ["chart", "ask"] sp0) (kn1 : Kn P w K mg base cs "deed_text" 2 ["chart", "deed"] sp1) {f : Addr} {cdv : Value} {A : Around} {outer : List PySem.Env} {sh : Shared} {H : Hp} {E : XK} (hr : Room 2 (A.deeper (envOfC "way_text" (defScope s_way_text) sh.heap.objs.size f cdv))) :
    VSs (cxOf CX0 P w K mg base ["chart", "way", "row", "ask", "deed"] "way_text" (defScope s_way_text) f cdv A outer sh H E).nox cs [] (defBody s_way_text) (w_way_text sp0 sp1) :=
  (vss_cons (vs_set 2 (vt_op op_add5 od_addG (vp_of vt_str) (vp_ix (vp_v 1) (vp_of vt_int))) sc_way_text.nd) (vss_cons (vs_if (vb_cmp op_gt od_cmp (vp_of (vt_callB call_len cd_len rfl (fr _ (by decide)) boot_more.1 (va_cons (vp_ix (vp_v 1) (vp_of vt_int)) va_nil))) (vp_of vt_int) (nomark _)) (vss_one (vs_set 2 (vt_op op_add5 od_addG (vp_of (vt_op op_add5 od_addG (vp_v 2) (vp_of vt_str))) (vp_of (vt_sm1 PySem.F.slot_str_join PySem.F.type_str_join mt_join os_join (vp_of vt_str) (vp_of (vt_lc 3 rfl sc_way_text.nd (vi_seq (vt_tk (vp_ix (vp_v 1) (vp_of vt_int)))) (blkOk_by (N := ["chart", "way", "row", "ask", "deed"]) (sc := defScope s_way_text) (by decide +kernel)) (fun _ _ _ _ _ => pg_name sc_way_text.nd rfl (Or.inl rfl)) (fun _ _ _ _ _ => vts_nil) (fun _ _ _ _ _ => (vt_fn kn0 (hr.mono (by decide)) rfl (va_cons (vp_v 0) (va_cons (vp_v 3) va_nil))))))))) sc_way_text.nd)) vss_nil) (vss_cons (vs_if (vb_cmp op_gt od_cmp (vp_of (vt_callB call_len cd_len rfl (fr _ (by decide)) boot_more.1 (va_cons (vp_ix (vp_v 1) (vp_of vt_int)) va_nil))) (vp_of vt_int) (nomark _)) (vss_one (vs_set 2 (vt_op op_add5 od_addG (vp_of (vt_op op_add5 od_addG (vp_v 2) (vp_of vt_str))) (vp_of (vt_sm1 PySem.F.slot_str_join PySem.F.type_str_join mt_join os_join (vp_of vt_str) (vp_of (vt_lc 4 rfl sc_way_text.nd (vi_seq (vt_tk (vp_ix (vp_v 1) (vp_of vt_int)))) (blkOk_by (N := ["chart", "way", "row", "ask", "deed"]) (sc := defScope s_way_text) (by decide +kernel)) (fun _ _ _ _ _ => pg_name sc_way_text.nd rfl (Or.inl rfl)) (fun _ _ _ _ _ => vts_nil) (fun _ _ _ _ _ => (vt_fn kn1 (hr.mono (by decide)) rfl (va_cons (vp_v 0) (va_cons (vp_v 4) va_nil))))))))) sc_way_text.nd)) vss_nil) (vss_cons (vs_if (vb_cmp (op_ne2 hr.units) od_ne (vp_ix (vp_v 1) (vp_of vt_int)) (vp_of (vt_neg (vp_of vt_int))) (nomark _)) (vss_cons (vs_set 2 (vt_op op_add5 od_addG (vp_of (vt_op op_add5 od_addG (vp_v 2) (vp_of vt_str))) (vp_ix (vp_fld hC (vp_v 0)) (vp_ix (vp_v 1) (vp_of vt_int)))) sc_way_text.nd) (vss_one (vs_if (vb_cmp (op_ne2 hr.units) od_ne (vp_ix (vp_v 1) (vp_of vt_int)) (vp_of vt_str) (nomark _)) (vss_one (vs_set 2 (vt_op op_add5 od_addG (vp_of (vt_op op_add5 od_addG (vp_v 2) (vp_of vt_str))) (vp_ix (vp_v 1) (vp_of vt_int))) sc_way_text.nd)) vss_nil))) vss_nil) (vss_one (vs_retv 2))))))
theorem kn_way_text {sp0 : SpD} {sp1 : SpD} (hC : CsOk K cs) (hcf : ∀ ci ∈ cs, ci.fields = fieldsOf ci.name) (fr : Free mg frees) (kn0 : Kn P w K mg base cs "ask_text" 2 ["chart", "ask"] sp0) (kn1 : Kn P w K mg base cs "deed_text" 2 ["chart", "deed"] sp1) {f : Addr} {fd : FuncData} (F : Fun K "way_text" "way_text" s_way_text f fd) (hm : mg "way_text" = some (.ref f)) (hb : Binds K fd ["chart", "way"] []) {s : SpD} (hl : ∀ ds Q, s ds Q → ds.length = 2)
    (hd : ∀ ds Q, s ds Q → w_way_text sp0 sp1 { nx := fun _ => Q .non, rt := fun d _ => Q d } (env0 5 ds)) : Kn P w K mg base cs "way_text" 3 ["chart", "way"] s :=
  ⟨f, fd, fn_pure F sc_way_text hl (fun _ _ _ _ _ _ hr => vs_way_text hC hcf fr kn0 kn1 hr) hd, hm, F.kp, hb⟩
abbrev s_own_rows : Stmt := top 10
theorem sc_own_rows : FnScope ["chart", "mood", "rows", "deed", "way"] ["chart", "mood"] (defScope s_own_rows) := ⟨rfl, rfl, rfl, by decide +kernel, rfl, by decide +kernel, by decide +kernel⟩
theorem vs_own_rows {sp0 : SpD} {sp1 : SpD} (hC : CsOk K cs) (hcf : ∀ ci ∈ cs, ci.fields = fieldsOf ci.name) (fr : Free mg frees) (kn0 : Kn P w K mg base cs "deed_text" 2 ["chart", "deed"] sp0) (kn1 : Kn P w K mg base cs "way_text" 3 ["chart", "way"] sp1) {f : Addr} {cdv : Value} {A : Around} {outer : List PySem.Env} {sh : Shared} {H : Hp} {E : XK} (hr : Room 3 (A.deeper (envOfC "own_rows" (defScope s_own_rows) sh.heap.objs.size f cdv))) :
    VSs (cxOf CX0 P w K mg base ["chart", "mood", "rows", "deed", "way"] "own_rows" (defScope s_own_rows) f cdv A outer sh H E).nox cs [] (defBody s_own_rows) (w_own_rows sp0 sp1) :=
  (vss_cons (vs_setLc 2 3 rfl sc_own_rows.nd rfl rfl (sw_true rfl rfl rfl (by decide +kernel)) (vi_seq (vt_tk (vp_ix (vp_fld hC (vp_v 0)) (vp_v 1)))) (blkOk_by (N := ["chart", "mood", "rows", "deed", "way"]) (sc := defScope s_own_rows) (by decide +kernel)) (fun _ _ _ _ _ => pg_name sc_own_rows.nd rfl (Or.inl rfl)) (fun _ _ _ _ _ => vts_nil) (fun _ _ _ _ _ => (vt_op op_add5 od_addG (vp_of vt_str) (vp_of (vt_fn kn0 (hr.mono (by decide)) rfl (va_cons (vp_v 0) (va_cons (vp_v 3) va_nil))))))) (vss_cons (vs_set 2 (vt_op op_add5 od_addG (vp_v 2) (vp_of (vt_lc 3 rfl sc_own_rows.nd (vi_seq (vt_tk (vp_ix (vp_fld hC (vp_v 0)) (vp_v 1)))) (blkOk_by (N := ["chart", "mood", "rows", "deed", "way"]) (sc := defScope s_own_rows) (by decide +kernel)) (fun _ _ _ _ _ => pg_name sc_own_rows.nd rfl (Or.inl rfl)) (fun _ _ _ _ _ => vts_nil) (fun _ _ _ _ _ => (vt_op op_add5 od_addG (vp_of vt_str) (vp_of (vt_fn kn0 (hr.mono (by decide)) rfl (va_cons (vp_v 0) (va_cons (vp_v 3) va_nil))))))))) sc_own_rows.nd) (vss_one (vs_ret (vt_op op_add5 od_addG (vp_v 2) (vp_of (vt_lc 4 rfl sc_own_rows.nd (vi_seq (vt_tk (vp_fld hC (vp_v 0)))) (blkOk_by (N := ["chart", "mood", "rows", "deed", "way"]) (sc := defScope s_own_rows) (by decide +kernel)) (fun _ _ _ _ _ => pg_name sc_own_rows.nd rfl (Or.inl rfl)) (fun _ _ _ _ _ => (vts_one (vb_cmp (op_eq2 hr.units) od_eq (vp_ix (vp_v 4) (vp_of vt_int)) (vp_v 1) (nomark _)))) (fun _ _ _ _ _ => (vt_fn kn1 (hr.mono (by decide)) rfl (va_cons (vp_v 0) (va_cons (vp_v 4) va_nil)))))))))))
theorem kn_own_rows {sp0 : SpD} {sp1 : SpD} (hC : CsOk K cs) (hcf : ∀ ci ∈ cs, ci.fields = fieldsOf ci.name) (fr : Free mg frees) (kn0 : Kn P w K mg base cs "deed_text" 2 ["chart", "deed"] sp0) (kn1 : Kn P w K mg base cs "way_text" 3 ["chart", "way"] sp1) {f : Addr} {fd : FuncData} (F : Fun K "own_rows" "own_rows" s_own_rows f fd) (hm : mg "own_rows" = some (.ref f)) (hb : Binds K fd ["chart", "mood"] []) {s : SpD} (hl : ∀ ds Q, s ds Q → ds.length = 2)
    (hd : ∀ ds Q, s ds Q → w_own_rows sp0 sp1 { nx := fun _ => Q .non, rt := fun d _ => Q d } (env0 5 ds)) : Kn P w K mg base cs "own_rows" 4 ["chart", "mood"] s :=
  ⟨f, fd, fn_pure F sc_own_rows hl (fun _ _ _ _ _ _ hr => vs_own_rows hC hcf fr kn0 kn1 hr) hd, hm, F.kp, hb⟩
abbrev s_above : Stmt := top 2
theorem sc_above : FnScope ["tree", "mood", "found", "at"] ["tree", "mood"] (defScope s_above) := ⟨rfl, rfl, rfl, by decide +kernel, rfl, by decide +kernel, by decide +kernel⟩
theorem vs_above (hC : CsOk K cs) (hcf : ∀ ci ∈ cs, ci.fields = fieldsOf ci.name) (fr : Free mg frees) {f : Addr} {cdv : Value} {A : Around} {outer : List PySem.Env} {sh : Shared} {H : Hp} {E : XK} (hr : Room 0 (A.deeper (envOfC "above" (defScope s_above) sh.heap.objs.size f cdv))) :
    VSs (cxOf CX0 P w K mg base ["tree", "mood", "found", "at"] "above" (defScope s_above) f cdv A outer sh H E).nox cs [] (defBody s_above) (w_above) :=
  (vss_cons (vs_set 2 (vt_lst vm_nil) sc_above.nd) (vss_cons (vs_set 3 (vt_tk (vp_ix (vp_fld hC (vp_v 0)) (vp_v 1))) sc_above.nd) (vss_cons (vs_while PassesOwn.never (vb_cmp (op_ne2 hr.units) od_ne (vp_v 3) (vp_of (vt_neg (vp_of vt_int))) (nomark _)) (vss_cons (vs_app 2 (pe_bm PySem.F.plainAttrs_list PySem.F.slot_list_append PySem.F.type_list_append mt_append (pv 2) (pa_cons (VT.run (vt_tk (vp_v 3))) pa_nil))) (vss_one (vs_set 3 (vt_tk (vp_ix (vp_fld hC (vp_v 0)) (vp_v 3))) sc_above.nd)))) (vss_one (vs_retv 2)))))
theorem kn_above (hC : CsOk K cs) (hcf : ∀ ci ∈ cs, ci.fields = fieldsOf ci.name) (fr : Free mg frees) {f : Addr} {fd : FuncData} (F : Fun K "above" "above" s_above f fd) (hm : mg "above" = some (.ref f)) (hb : Binds K fd ["tree", "mood"] []) {s : SpD} (hl : ∀ ds Q, s ds Q → ds.length = 2)
    (hd : ∀ ds Q, s ds Q → w_above { nx := fun _ => Q .non, rt := fun d _ => Q d } (env0 4 ds)) : Kn P w K mg base cs "above" 1 ["tree", "mood"] s :=
  ⟨f, fd, fn_pure F sc_above hl (fun _ _ _ _ _ _ hr => vs_above hC hcf fr hr) hd, hm, F.kp, hb⟩
abbrev s_depth : Stmt := top 3
theorem sc_depth : FnScope ["tree", "mood"] ["tree", "mood"] (defScope s_depth) := ⟨rfl, rfl, rfl, by decide +kernel, rfl, by decide +kernel, by decide +kernel⟩
theorem vs_depth {sp0 : SpD} (hC : CsOk K cs) (hcf : ∀ ci ∈ cs, ci.fields = fieldsOf ci.name) (fr : Free mg frees) (kn0 : Kn P w K mg base cs "above" 1 ["tree", "mood"] sp0) {f : Addr} {cdv : Value} {A : Around} {outer : List PySem.Env} {sh : Shared} {H : Hp} {E : XK} (hr : Room 1 (A.deeper (envOfC "depth" (defScope s_depth) sh.heap.objs.size f cdv))) :
    VSs (cxOf CX0 P w K mg base ["tree", "mood"] "depth" (defScope s_depth) f cdv A outer sh H E).nox cs [] (defBody s_depth) (w_depth sp0) :=
  (vss_one (vs_ret (vt_callB call_len cd_len rfl (fr _ (by decide)) boot_more.1 (va_cons (vp_of (vt_fn kn0 (hr.mono (by decide)) rfl (va_cons (vp_v 0) (va_cons (vp_v 1) va_nil)))) va_nil))))
theorem kn_depth {sp0 : SpD} (hC : CsOk K cs) (hcf : ∀ ci ∈ cs, ci.fields = fieldsOf ci.name) (fr : Free mg frees) (kn0 : Kn P w K mg base cs "above" 1 ["tree", "mood"] sp0) {f : Addr} {fd : FuncData} (F : Fun K "depth" "depth" s_depth f fd) (hm : mg "depth" = some (.ref f)) (hb : Binds K fd ["tree", "mood"] []) {s : SpD} (hl : ∀ ds Q, s ds Q → ds.length = 2)
    (hd : ∀ ds Q, s ds Q → w_depth sp0 { nx := fun _ => Q .non, rt := fun d _ => Q d } (env0 2 ds)) : Kn P w K mg base cs "depth" 2 ["tree", "mood"] s :=
  ⟨f, fd, fn_pure F sc_depth hl (fun _ _ _ _ _ _ hr => vs_depth hC hcf fr kn0 hr) hd, hm, F.kp, hb⟩
abbrev s_mood_text : Stmt := top 9
theorem sc_mood_text : FnScope ["chart", "mood", "row"] ["chart", "mood"] (defScope s_mood_text) := ⟨rfl, rfl, rfl, by decide +kernel, rfl, by decide +kernel, by decide +kernel⟩
theorem vs_mood_text (hC : CsOk K cs) (hcf : ∀ ci ∈ cs, ci.fields = fieldsOf ci.name) (fr : Free mg frees) {f : Addr} {cdv : Value} {A : Around} {outer : List PySem.Env} {sh : Shared} {H : Hp} {E : XK} (hr : Room 0 (A.deeper (envOfC "mood_text" (defScope s_mood_text) sh.heap.objs.size f cdv))) :
    VSs (cxOf CX0 P w K mg base ["chart", "mood", "row"] "mood_text" (defScope s_mood_text) f cdv A outer sh H E).nox cs [] (defBody s_mood_text) (w_mood_text) :=
  (vss_cons (vs_set 2 (vt_op op_add5 od_addG (vp_of (vt_op op_add5 od_addG (vp_ix (vp_fld hC (vp_fld hC (vp_v 0))) (vp_v 1)) (vp_of vt_str))) (vp_ix (vp_fld hC (vp_v 0)) (vp_v 1))) sc_mood_text.nd) (vss_cons (vs_if (vb_cmp (op_eq2 hr.units) od_eq (vp_ix (vp_fld hC (vp_fld hC (vp_v 0))) (vp_v 1)) (vp_of vt_str) (nomark _)) (vss_one (vs_set 2 (vt_op op_add5 od_addG (vp_of (vt_op op_add5 od_addG (vp_v 2) (vp_of vt_str))) (vp_ix (vp_fld hC (vp_v 0)) (vp_ix (vp_fld hC (vp_fld hC (vp_v 0))) (vp_v 1)))) sc_mood_text.nd)) vss_nil) (vss_one (vs_retv 2))))
theorem kn_mood_text (hC : CsOk K cs) (hcf : ∀ ci ∈ cs, ci.fields = fieldsOf ci.name) (fr : Free mg frees) {f : Addr} {fd : FuncData} (F : Fun K "mood_text" "mood_text" s_mood_text f fd) (hm : mg "mood_text" = some (.ref f)) (hb : Binds K fd ["chart", "mood"] []) {s : SpD} (hl : ∀ ds Q, s ds Q → ds.length = 2)
    (hd : ∀ ds Q, s ds Q → w_mood_text { nx := fun _ => Q .non, rt := fun d _ => Q d } (env0 3 ds)) : Kn P w K mg base cs "mood_text" 1 ["chart", "mood"] s :=
  ⟨f, fd, fn_pure F sc_mood_text hl (fun _ _ _ _ _ _ hr => vs_mood_text hC hcf fr hr) hd, hm, F.kp, hb⟩
abbrev s_shown : Stmt := top 11
theorem sc_shown : FnScope ["chart", "rows", "box", "mood", "blanks", "row"] ["chart"] (defScope s_shown) := ⟨rfl, rfl, rfl, by decide +kernel, rfl, by decide +kernel, by decide +kernel⟩
theorem vs_shown {sp0 : SpD} {sp1 : SpD} {sp2 : SpD} (hC : CsOk K cs) (hcf : ∀ ci ∈ cs, ci.fields = fieldsOf ci.name) (fr : Free mg frees) (kn0 : Kn P w K mg base cs "depth" 2 ["tree", "mood"] sp0) (kn1 : Kn P w K mg base cs "mood_text" 1 ["chart", "mood"] sp1) (kn2 : Kn P w K mg base cs "own_rows" 4 ["chart", "mood"] sp2) {f : Addr} {cdv : Value} {A : Around} {outer : List PySem.Env} {sh : Shared} {H : Hp} {E : XK} (hr : Room 4 (A.deeper (envOfC "shown" (defScope s_shown) sh.heap.objs.size f cdv))) :
    VSs (cxOf CX0 P w K mg base ["chart", "rows", "box", "mood", "blanks", "row"] "shown" (defScope s_shown) f cdv A outer sh H E).nox cs [] (defBody s_shown) (w_shown sp0 sp1 sp2) :=
  (vss_cons (vs_setLc 1 2 rfl sc_shown.nd rfl rfl (sw_true rfl rfl rfl (by decide +kernel)) (vi_seq (vt_tk (vp_fld hC (vp_v 0)))) (blkOk_by (N := ["chart", "rows", "box", "mood", "blanks", "row"]) (sc := defScope s_shown) (by decide +kernel)) (fun _ _ _ _ _ => pg_name sc_shown.nd rfl (Or.inl rfl)) (fun _ _ _ _ _ => vts_nil) (fun _ _ _ _ _ => (vt_op op_add5 od_addG (vp_of (vt_op op_add5 od_addG (vp_of (vt_op op_add5 od_addG (vp_of vt_str) (vp_ix (vp_v 2) (vp_of vt_int)))) (vp_of vt_str))) (vp_of (vt_callTy call_str_int cd_str rfl (fr _ (by decide)) boot_tys.2.2.1 (va_cons (vp_ix (vp_v 2) (vp_of vt_int)) va_nil)))))) (vss_cons (vs_for 3 PassesOwn.never rfl (vi_rng1 rfl (fr _ (by decide)) (va_cons (vp_of (vt_callB call_len cd_len rfl (fr _ (by decide)) boot_more.1 (va_cons (vp_fld hC (vp_v 0)) va_nil))) va_nil)) sc_shown.nd (vss_cons (vs_set 4 (vt_op op_mulS od_mulS (vp_of vt_str) (vp_of (vt_fn kn0 (hr.mono (by decide)) rfl (va_cons (vp_fld hC (vp_v 0)) (va_cons (vp_v 3) va_nil))))) sc_shown.nd) (vss_cons (vs_app 1 (pe_bm PySem.F.plainAttrs_list PySem.F.slot_list_append PySem.F.type_list_append mt_append (pv 1) (pa_cons (VT.run (vt_op op_add5 od_addG (vp_v 4) (vp_of (vt_fn kn1 (hr.mono (by decide)) rfl (va_cons (vp_v 0) (va_cons (vp_v 3) va_nil)))))) pa_nil))) (vss_one (vs_for 5 PassesOwn.never rfl (vi_seq (vt_fn kn2 (hr.mono (by decide)) rfl (va_cons (vp_v 0) (va_cons (vp_v 3) va_nil)))) sc_shown.nd (vss_one (vs_app 1 (pe_bm PySem.F.plainAttrs_list PySem.F.slot_list_append PySem.F.type_list_append mt_append (pv 1) (pa_cons (VT.run (vt_op op_add5 od_addG (vp_of (vt_op op_add5 od_addG (vp_v 4) (vp_of vt_str))) (vp_v 5))) pa_nil))))))))) (vss_one (vs_ret (vt_sm1 PySem.F.slot_str_join PySem.F.type_str_join mt_join os_join (vp_of vt_str) (vp_v 1))))))
theorem kn_shown {sp0 : SpD} {sp1 : SpD} {sp2 : SpD} (hC : CsOk K cs) (hcf : ∀ ci ∈ cs, ci.fields = fieldsOf ci.name) (fr : Free mg frees) (kn0 : Kn P w K mg base cs "depth" 2 ["tree", "mood"] sp0) (kn1 : Kn P w K mg base cs "mood_text" 1 ["chart", "mood"] sp1) (kn2 : Kn P w K mg base cs "own_rows" 4 ["chart", "mood"] sp2) {f : Addr} {fd : FuncData} (F : Fun K "shown" "shown" s_shown f fd) (hm : mg "shown" = some (.ref f)) (hb : Binds K fd ["chart"] []) {s : SpD} (hl : ∀ ds Q, s ds Q → ds.length = 1)
    (hd : ∀ ds Q, s ds Q → w_shown sp0 sp1 sp2 { nx := fun _ => Q .non, rt := fun d _ => Q d } (env0 6 ds)) : Kn P w K mg base cs "shown" 5 ["chart"] s :=
  ⟨f, fd, fn_pure F sc_shown hl (fun _ _ _ _ _ _ hr => vs_shown hC hcf fr kn0 kn1 kn2 hr) hd, hm, F.kp, hb⟩
abbrev s_L_term_text : Stmt := top 30
theorem sc_L_term_text : FnScope ["boxes", "term", "name"] ["boxes", "term"] (defScope s_L_term_text) := ⟨rfl, rfl, rfl, by decide +kernel, rfl, by decide +kernel, by decide +kernel⟩
theorem vs_L_term_text (hC : CsOk K cs) (hcf : ∀ ci ∈ cs, ci.fields = fieldsOf ci.name) (fr : Free mg frees) {f : Addr} {cdv : Value} {A : Around} {outer : List PySem.Env} {sh : Shared} {H : Hp} {E : XK} (hr : Room 0 (A.deeper (envOfC "_law_term_text" (defScope s_L_term_text) sh.heap.objs.size f cdv))) :
    VSs (cxOf CX0 P w K mg base ["boxes", "term", "name"] "_law_term_text" (defScope s_L_term_text) f cdv A outer sh H E).nox cs [] (defBody s_L_term_text) (w_L_term_text) :=
  (vss_cons (vs_if (vb_cmp (op_eq2 hr.units) od_eq (vp_ix (vp_v 1) (vp_of vt_int)) (vp_of (vt_neg (vp_of vt_int))) (nomark _)) (vss_one (vs_ret (vt_callTy call_str_int cd_str rfl (fr _ (by decide)) boot_tys.2.2.1 (va_cons (vp_ix (vp_v 1) (vp_of vt_int)) va_nil)))) vss_nil) (vss_cons (vs_set 2 (vt_tk (vp_ix (vp_v 0) (vp_ix (vp_v 1) (vp_of vt_int)))) sc_L_term_text.nd) (vss_cons (vs_if (vb_cmp (op_eq2 hr.units) od_eq (vp_ix (vp_v 1) (vp_of vt_int)) (vp_of vt_int) (nomark _)) (vss_one (vs_retv 2)) vss_nil) (vss_one (vs_ret (vt_op op_add5 od_addG (vp_of (vt_op op_add5 od_addG (vp_v 2) (vp_ix (vp_of (vt_lst (vm_cons vt_str (vm_cons vt_str vm_nil)))) (vp_of (vt_callTy call_int1 cd_int rfl (fr _ (by decide)) boot_tys.1 (va_cons (vp_of (vt_cmp op_gt od_cmp (vp_ix (vp_v 1) (vp_of vt_int)) (vp_of vt_int) (nomark _))) va_nil)))))) (vp_of (vt_callTy call_str_int cd_str rfl (fr _ (by decide)) boot_tys.2.2.1 (va_cons (vp_of (vt_callB call_abs cd_abs rfl (fr _ (by decide)) boot_more.2.2.2.1 (va_cons (vp_ix (vp_v 1) (vp_of vt_int)) va_nil))) va_nil)))))))))
theorem kn_L_term_text (hC : CsOk K cs) (hcf : ∀ ci ∈ cs, ci.fields = fieldsOf ci.name) (fr : Free mg frees) {f : Addr} {fd : FuncData} (F : Fun K "_law_term_text" "_law_term_text" s_L_term_text f fd) (hm : mg "_law_term_text" = some (.ref f)) (hb : Binds K fd ["boxes", "term"] []) {s : SpD} (hl : ∀ ds Q, s ds Q → ds.length = 2)
    (hd : ∀ ds Q, s ds Q → w_L_term_text { nx := fun _ => Q .non, rt := fun d _ => Q d } (env0 3 ds)) : Kn P w K mg base cs "_law_term_text" 1 ["boxes", "term"] s :=
  ⟨f, fd, fn_pure F sc_L_term_text hl (fun _ _ _ _ _ _ hr => vs_L_term_text hC hcf fr hr) hd, hm, F.kp, hb⟩
abbrev s_L_deed_text : Stmt := top 31
theorem sc_L_deed_text : FnScope ["boxes", "deed", "name"] ["boxes", "deed"] (defScope s_L_deed_text) := ⟨rfl, rfl, rfl, by decide +kernel, rfl, by decide +kernel, by decide +kernel⟩
theorem vs_L_deed_text {sp0 : SpD} (hC : CsOk K cs) (hcf : ∀ ci ∈ cs, ci.fields = fieldsOf ci.name) (fr : Free mg frees) (kn0 : Kn P w K mg base cs "_law_term_text" 1 ["boxes", "term"] sp0) {f : Addr} {cdv : Value} {A : Around} {outer : List PySem.Env} {sh : Shared} {H : Hp} {E : XK} (hr : Room 1 (A.deeper (envOfC "_law_deed_text" (defScope s_L_deed_text) sh.heap.objs.size f cdv))) :
    VSs (cxOf CX0 P w K mg base ["boxes", "deed", "name"] "_law_deed_text" (defScope s_L_deed_text) f cdv A outer sh H E).nox cs [] (defBody s_L_deed_text) (w_L_deed_text sp0) :=
  (vss_cons (vs_if (vb_cmp (op_eq2 hr.units) od_eq (vp_ix (vp_v 1) (vp_of vt_int)) (vp_of vt_str) (nomark _)) (vss_one (vs_ret (vt_op op_add5 od_addG (vp_of vt_str) (vp_ix (vp_v 1) (vp_of vt_int))))) vss_nil) (vss_cons (vs_set 2 (vt_tk (vp_ix (vp_v 1) (vp_of vt_int))) sc_L_deed_text.nd) (vss_cons (vs_if (vb_cmp (op_eq2 hr.units) od_eq (vp_ix (vp_v 1) (vp_of vt_int)) (vp_of vt_str) (nomark _)) (vss_one (vs_set 2 (vt_tk (vp_ix (vp_v 0) (vp_ix (vp_v 1) (vp_of vt_int)))) sc_L_deed_text.nd)) vss_nil) (vss_one (vs_ret (vt_op op_add5 od_addG (vp_of (vt_op op_add5 od_addG (vp_of (vt_op op_add5 od_addG (vp_of (vt_op op_add5 od_addG (vp_ix (vp_v 1) (vp_of vt_int)) (vp_of vt_str))) (vp_v 2))) (vp_of vt_str))) (vp_of (vt_fn kn0 (hr.mono (by decide)) rfl (va_cons (vp_v 0) (va_cons (vp_ix (vp_v 1) (vp_of vt_int)) va_nil))))))))))
theorem kn_L_deed_text {sp0 : SpD} (hC : CsOk K cs) (hcf : ∀ ci ∈ cs, ci.fields = fieldsOf ci.name) (fr : Free mg frees) (kn0 : Kn P w K mg base cs "_law_term_text" 1 ["boxes", "term"] sp0) {f : Addr} {fd : FuncData} (F : Fun K "_law_deed_text" "_law_deed_text" s_L_deed_text f fd) (hm : mg "_law_deed_text" = some (.ref f)) (hb : Binds K fd ["boxes", "deed"] []) {s : SpD} (hl : ∀ ds Q, s ds Q → ds.length = 2)
    (hd : ∀ ds Q, s ds Q → w_L_deed_text sp0 { nx := fun _ => Q .non, rt := fun d _ => Q d } (env0 3 ds)) : Kn P w K mg base cs "_law_deed_text" 2 ["boxes", "deed"] s :=
  ⟨f, fd, fn_pure F sc_L_deed_text hl (fun _ _ _ _ _ _ hr => vs_L_deed_text hC hcf fr kn0 hr) hd, hm, F.kp, hb⟩
abbrev s_L_ask_text : Stmt := top 32
theorem sc_L_ask_text : FnScope ["boxes", "names", "ask"] ["boxes", "names", "ask"] (defScope s_L_ask_text) := ⟨rfl, rfl, rfl, by decide +kernel, rfl, by decide +kernel, by decide +kernel⟩
theorem vs_L_ask_text {sp0 : SpD} (hC : CsOk K cs) (hcf : ∀ ci ∈ cs, ci.fields = fieldsOf ci.name) (fr : Free mg frees) (kn0 : Kn P w K mg base cs "_law_term_text" 1 ["boxes", "term"] sp0) {f : Addr} {cdv : Value} {A : Around} {outer : List PySem.Env} {sh : Shared} {H : Hp} {E : XK} (hr : Room 1 (A.deeper (envOfC "_law_ask_text" (defScope s_L_ask_text) sh.heap.objs.size f cdv))) :
    VSs (cxOf CX0 P w K mg base ["boxes", "names", "ask"] "_law_ask_text" (defScope s_L_ask_text) f cdv A outer sh H E).nox cs [] (defBody s_L_ask_text) (w_L_ask_text sp0) :=
  (vss_cons (vs_if (vb_cmp (op_eq2 hr.units) od_eq (vp_of (vt_callB call_len cd_len rfl (fr _ (by decide)) boot_more.1 (va_cons (vp_v 2) va_nil))) (vp_of vt_int) (nomark _)) (vss_one (vs_ret (vt_op op_add5 od_addG (vp_of (vt_op op_add5 od_addG (vp_ix (vp_v 2) (vp_of vt_int)) (vp_of vt_str))) (vp_ix (vp_v 1) (vp_ix (vp_v 2) (vp_of vt_int)))))) vss_nil) (vss_one (vs_ret (vt_op op_add5 od_addG (vp_of (vt_op op_add5 od_addG (vp_of (vt_op op_add5 od_addG (vp_of (vt_op op_add5 od_addG (vp_of (vt_fn kn0 (hr.mono (by decide)) rfl (va_cons (vp_v 0) (va_cons (vp_ix (vp_v 2) (vp_of vt_int)) va_nil)))) (vp_of vt_str))) (vp_ix (vp_v 2) (vp_of vt_int)))) (vp_of vt_str))) (vp_of (vt_fn kn0 (hr.mono (by decide)) rfl (va_cons (vp_v 0) (va_cons (vp_ix (vp_v 2) (vp_of vt_int)) va_nil))))))))
theorem kn_L_ask_text {sp0 : SpD} (hC : CsOk K cs) (hcf : ∀ ci ∈ cs, ci.fields = fieldsOf ci.name) (fr : Free mg frees) (kn0 : Kn P w K mg base cs "_law_term_text" 1 ["boxes", "term"] sp0) {f : Addr} {fd : FuncData} (F : Fun K "_law_ask_text" "_law_ask_text" s_L_ask_text f fd) (hm : mg "_law_ask_text" = some (.ref f)) (hb : Binds K fd ["boxes", "names", "ask"] []) {s : SpD} (hl : ∀ ds Q, s ds Q → ds.length = 3)
    (hd : ∀ ds Q, s ds Q → w_L_ask_text sp0 { nx := fun _ => Q .non, rt := fun d _ => Q d } (env0 3 ds)) : Kn P w K mg base cs "_law_ask_text" 2 ["boxes", "names", "ask"] s :=
  ⟨f, fd, fn_pure F sc_L_ask_text hl (fun _ _ _ _ _ _ hr => vs_L_ask_text hC hcf fr kn0 hr) hd, hm, F.kp, hb⟩
abbrev s_L_way_text : Stmt := top 33
theorem sc_L_way_text : FnScope ["boxes", "names", "way", "row", "joint", "ask", "deed"] ["boxes", "names", "way"] (defScope s_L_way_text) := ⟨rfl, rfl, rfl, by decide +kernel, rfl, by decide +kernel, by decide +kernel⟩
theorem vs_L_way_text {sp0 : SpD} {sp1 : SpD} (hC : CsOk K cs) (hcf : ∀ ci ∈ cs, ci.fields = fieldsOf ci.name) (fr : Free mg frees) (kn0 : Kn P w K mg base cs "_law_ask_text" 2 ["boxes", "names", "ask"] sp0) (kn1 : Kn P w K mg base cs "_law_deed_text" 2 ["boxes", "deed"] sp1) {f : Addr} {cdv : Value} {A : Around} {outer : List PySem.Env} {sh : Shared} {H : Hp} {E : XK} (hr : Room 2 (A.deeper (envOfC "_law_way_text" (defScope s_L_way_text) sh.heap.objs.size f cdv))) :
    VSs (cxOf CX0 P w K mg base ["boxes", "names", "way", "row", "joint", "ask", "deed"] "_law_way_text" (defScope s_L_way_text) f cdv A outer sh H E).nox cs [] (defBody s_L_way_text) (w_L_way_text sp0 sp1) :=
  (vss_cons (vs_set 3 (vt_op op_add5 od_addG (vp_of vt_str) (vp_ix (vp_v 2) (vp_of vt_int))) sc_L_way_text.nd) (vss_cons (vs_set 4 vt_str sc_L_way_text.nd) (vss_cons (vs_for 5 PassesOwn.never rfl (vi_seq (vt_tk (vp_ix (vp_v 2) (vp_of vt_int)))) sc_L_way_text.nd (vss_cons (vs_set 3 (vt_op op_add5 od_addG (vp_of (vt_op op_add5 od_addG (vp_v 3) (vp_v 4))) (vp_of (vt_fn kn0 (hr.mono (by decide)) rfl (va_cons (vp_v 0) (va_cons (vp_v 1) (va_cons (vp_v 5) va_nil)))))) sc_L_way_text.nd) (vss_one (vs_set 4 vt_str sc_L_way_text.nd)))) (vss_cons (vs_set 4 vt_str sc_L_way_text.nd) (vss_cons (vs_for 6 PassesOwn.never rfl (vi_seq (vt_tk (vp_ix (vp_v 2) (vp_of vt_int)))) sc_L_way_text.nd (vss_cons (vs_set 3 (vt_op op_add5 od_addG (vp_of (vt_op op_add5 od_addG (vp_v 3) (vp_v 4))) (vp_of (vt_fn kn1 (hr.mono (by decide)) rfl (va_cons (vp_v 0) (va_cons (vp_v 6) va_nil))))) sc_L_way_text.nd) (vss_one (vs_set 4 vt_str sc_L_way_text.nd)))) (vss_cons (vs_if (vb_cmp (op_eq2 hr.units) od_eq (vp_ix (vp_v 2) (vp_of vt_int)) (vp_of (vt_neg (vp_of vt_int))) (nomark _)) (vss_one (vs_retv 3)) vss_nil) (vss_one (vs_ret (vt_op op_add5 od_addG (vp_of (vt_op op_add5 od_addG (vp_of (vt_op op_add5 od_addG (vp_v 3) (vp_of vt_str))) (vp_ix (vp_v 1) (vp_ix (vp_v 2) (vp_of vt_int))))) (vp_ix (vp_of (vt_lst (vm_cons vt_str (vm_cons vt_str (vm_cons vt_str vm_nil))))) (vp_of (vt_lidxS (vp_of (vt_lst (vm_cons vt_str (vm_cons vt_str (vm_cons vt_str vm_nil))))) (vp_ix (vp_v 2) (vp_of vt_int))))))))))))))
theorem kn_L_way_text {sp0 : SpD} {sp1 : SpD} (hC : CsOk K cs) (hcf : ∀ ci ∈ cs, ci.fields = fieldsOf ci.name) (fr : Free mg frees) (kn0 : Kn P w K mg base cs "_law_ask_text" 2 ["boxes", "names", "ask"] sp0) (kn1 : Kn P w K mg base cs "_law_deed_text" 2 ["boxes", "deed"] sp1) {f : Addr} {fd : FuncData} (F : Fun K "_law_way_text" "_law_way_text" s_L_way_text f fd) (hm : mg "_law_way_text" = some (.ref f)) (hb : Binds K fd ["boxes", "names", "way"] []) {s : SpD} (hl : ∀ ds Q, s ds Q → ds.length = 3)
    (hd : ∀ ds Q, s ds Q → w_L_way_text sp0 sp1 { nx := fun _ => Q .non, rt := fun d _ => Q d } (env0 7 ds)) : Kn P w K mg base cs "_law_way_text" 3 ["boxes", "names", "way"] s :=
  ⟨f, fd, fn_pure F sc_L_way_text hl (fun _ _ _ _ _ _ hr => vs_L_way_text hC hcf fr kn0 kn1 hr) hd, hm, F.kp, hb⟩
abbrev s_L_rows_2 : Stmt := top 34
theorem sc_L_rows_2 : FnScope ["parts", "boxes", "names", "rows", "box", "mood", "blanks", "row", "deed", "way"] ["parts", "boxes"] (defScope s_L_rows_2) := ⟨rfl, rfl, rfl, by decide +kernel, rfl, by decide +kernel, by decide +kernel⟩
theorem vs_L_rows_2 {sp0 : SpD} {sp1 : SpD} {sp2 : SpD} (hC : CsOk K cs) (hcf : ∀ ci ∈ cs, ci.fields = fieldsOf ci.name) (fr : Free mg frees) (kn0 : Kn P w K mg base cs "_law_chain" 1 ["elders", "mood"] sp0) (kn1 : Kn P w K mg base cs "_law_deed_text" 2 ["boxes", "deed"] sp1) (kn2 : Kn P w K mg base cs "_law_way_text" 3 ["boxes", "names", "way"] sp2) {f : Addr} {cdv : Value} {A : Around} {outer : List PySem.Env} {sh : Shared} {H : Hp} {E : XK} (hr : Room 3 (A.deeper (envOfC "_law_rows" (defScope s_L_rows_2) sh.heap.objs.size f cdv))) :
    VSs (cxOf CX0 P w K mg base ["parts", "boxes", "names", "rows", "box", "mood", "blanks", "row", "deed", "way"] "_law_rows" (defScope s_L_rows_2) f cdv A outer sh H E).nox cs [] (defBody s_L_rows_2) (w_L_rows_2 sp0 sp1 sp2) :=
  (vss_cons (vs_set 2 (vt_tk (vp_ix (vp_v 0) (vp_of vt_int))) sc_L_rows_2.nd) (vss_cons (vs_setLc 3 4 rfl sc_L_rows_2.nd rfl rfl (sw_true rfl rfl rfl (by decide +kernel)) (vi_seq (vt_tk (vp_ix (vp_v 0) (vp_of vt_int)))) (blkOk_by (N := ["parts", "boxes", "names", "rows", "box", "mood", "blanks", "row", "deed", "way"]) (sc := defScope s_L_rows_2) (by decide +kernel)) (fun _ _ _ _ _ => pg_name sc_L_rows_2.nd rfl (Or.inl rfl)) (fun _ _ _ _ _ => vts_nil) (fun _ _ _ _ _ => (vt_op op_add5 od_addG (vp_of (vt_op op_add5 od_addG (vp_of (vt_op op_add5 od_addG (vp_of vt_str) (vp_ix (vp_v 4) (vp_of vt_int)))) (vp_of vt_str))) (vp_of (vt_callTy call_str_int cd_str rfl (fr _ (by decide)) boot_tys.2.2.1 (va_cons (vp_ix (vp_v 4) (vp_of vt_int)) va_nil)))))) (vss_cons (vs_for 5 PassesOwn.never rfl (vi_rng1 rfl (fr _ (by decide)) (va_cons (vp_of (vt_callB call_len cd_len rfl (fr _ (by decide)) boot_more.1 (va_cons (vp_ix (vp_v 0) (vp_of vt_int)) va_nil))) va_nil)) sc_L_rows_2.nd (vss_cons (vs_set 6 (vt_op op_mulS od_mulS (vp_of vt_str) (vp_of (vt_callB call_len cd_len rfl (fr _ (by decide)) boot_more.1 (va_cons (vp_of (vt_fn kn0 (hr.mono (by decide)) rfl (va_cons (vp_ix (vp_v 0) (vp_of vt_int)) (va_cons (vp_v 5) va_nil)))) va_nil)))) sc_L_rows_2.nd) (vss_cons (vs_set 7 (vt_op op_add5 od_addG (vp_of (vt_op op_add5 od_addG (vp_ix (vp_ix (vp_v 0) (vp_of vt_int)) (vp_v 5)) (vp_of vt_str))) (vp_ix (vp_v 2) (vp_v 5))) sc_L_rows_2.nd) (vss_cons (vs_if (vb_cmp (op_ne2 hr.units) od_ne (vp_ix (vp_ix (vp_v 0) (vp_of vt_int)) (vp_v 5)) (vp_of (vt_neg (vp_of vt_int))) (nomark _)) (vss_one (vs_set 7 (vt_op op_add5 od_addG (vp_of (vt_op op_add5 od_addG (vp_v 7) (vp_of vt_str))) (vp_ix (vp_v 2) (vp_ix (vp_ix (vp_v 0) (vp_of vt_int)) (vp_v 5)))) sc_L_rows_2.nd)) vss_nil) (vss_cons (vs_app 3 (pe_bm PySem.F.plainAttrs_list PySem.F.slot_list_append PySem.F.type_list_append mt_append (pv 3) (pa_cons (VT.run (vt_op op_add5 od_addG (vp_v 6) (vp_v 7))) pa_nil))) (vss_cons (vs_for 8 PassesOwn.never rfl (vi_seq (vt_tk (vp_ix (vp_ix (vp_v 0) (vp_of vt_int)) (vp_v 5)))) sc_L_rows_2.nd (vss_one (vs_app 3 (pe_bm PySem.F.plainAttrs_list PySem.F.slot_list_append PySem.F.type_list_append mt_append (pv 3) (pa_cons (VT.run (vt_op op_add5 od_addG (vp_of (vt_op op_add5 od_addG (vp_v 6) (vp_of vt_str))) (vp_of (vt_fn kn1 (hr.mono (by decide)) rfl (va_cons (vp_v 1) (va_cons (vp_v 8) va_nil)))))) pa_nil))))) (vss_cons (vs_for 8 PassesOwn.never rfl (vi_seq (vt_tk (vp_ix (vp_ix (vp_v 0) (vp_of vt_int)) (vp_v 5)))) sc_L_rows_2.nd (vss_one (vs_app 3 (pe_bm PySem.F.plainAttrs_list PySem.F.slot_list_append PySem.F.type_list_append mt_append (pv 3) (pa_cons (VT.run (vt_op op_add5 od_addG (vp_of (vt_op op_add5 od_addG (vp_v 6) (vp_of vt_str))) (vp_of (vt_fn kn1 (hr.mono (by decide)) rfl (va_cons (vp_v 1) (va_cons (vp_v 8) va_nil)))))) pa_nil))))) (vss_one (vs_for 9 PassesOwn.never rfl (vi_seq (vt_tk (vp_ix (vp_v 0) (vp_of vt_int)))) sc_L_rows_2.nd (vss_one (vs_if (vb_cmp (op_eq2 hr.units) od_eq (vp_ix (vp_v 9) (vp_of vt_int)) (vp_v 5) (nomark _)) (vss_one (vs_app 3 (pe_bm PySem.F.plainAttrs_list PySem.F.slot_list_append PySem.F.type_list_append mt_append (pv 3) (pa_cons (VT.run (vt_op op_add5 od_addG (vp_of (vt_op op_add5 od_addG (vp_v 6) (vp_of vt_str))) (vp_of (vt_fn kn2 (hr.mono (by decide)) rfl (va_cons (vp_v 1) (va_cons (vp_v 2) (va_cons (vp_v 9) va_nil))))))) pa_nil)))) vss_nil))))))))))) (vss_one (vs_retv 3)))))
theorem kn_L_rows_2 {sp0 : SpD} {sp1 : SpD} {sp2 : SpD} (hC : CsOk K cs) (hcf : ∀ ci ∈ cs, ci.fields = fieldsOf ci.name) (fr : Free mg frees) (kn0 : Kn P w K mg base cs "_law_chain" 1 ["elders", "mood"] sp0) (kn1 : Kn P w K mg base cs "_law_deed_text" 2 ["boxes", "deed"] sp1) (kn2 : Kn P w K mg base cs "_law_way_text" 3 ["boxes", "names", "way"] sp2) {f : Addr} {fd : FuncData} (F : Fun K "_law_rows" "_law_rows" s_L_rows_2 f fd) (hm : mg "_law_rows" = some (.ref f)) (hb : Binds K fd ["parts", "boxes"] []) {s : SpD} (hl : ∀ ds Q, s ds Q → ds.length = 2)
    (hd : ∀ ds Q, s ds Q → w_L_rows_2 sp0 sp1 sp2 { nx := fun _ => Q .non, rt := fun d _ => Q d } (env0 10 ds)) : Kn P w K mg base cs "_law_rows" 4 ["parts", "boxes"] s :=
  ⟨f, fd, fn_pure F sc_L_rows_2 hl (fun _ _ _ _ _ _ hr => vs_L_rows_2 hC hcf fr kn0 kn1 kn2 hr) hd, hm, F.kp, hb⟩
abbrev s_L_alike : Stmt := top 28
theorem sc_L_alike : FnScope ["found", "due", "k"] ["found", "due"] (defScope s_L_alike) := ⟨rfl, rfl, rfl, by decide +kernel, rfl, by decide +kernel, by decide +kernel⟩
theorem vs_L_alike {nr : Nat} {sp0 : SpD} (hC : CsOk K cs) (hcf : ∀ ci ∈ cs, ci.fields = fieldsOf ci.name) (fr : Free mg frees) (kn0 : Kn P w K mg base cs "_law_alike" (0 + nr) ["found", "due"] sp0) {f : Addr} {cdv : Value} {A : Around} {outer : List PySem.Env} {sh : Shared} {H : Hp} {E : XK} (hr : Room (0 + nr) (A.deeper (envOfC "_law_alike" (defScope s_L_alike) sh.heap.objs.size f cdv))) :
    VSs (cxOf CX0 P w K mg base ["found", "due", "k"] "_law_alike" (defScope s_L_alike) f cdv A outer sh H E).nox cs [] (defBody s_L_alike) (w_L_alike sp0) :=
  (vss_cons (vs_if (VW.vb (vw_or (vb_val (vp_of (vt_isi .list rfl (fr _ (by decide)) rfl (fr _ (by decide)) boot_tys.2.2.2.1 (vp_v 1)))) (vw_or1 (vb_val (vp_of (vt_isi .tuple rfl (fr _ (by decide)) rfl (fr _ (by decide)) boot_tys.2.2.2.2.1 (vp_v 1))))))) (vss_cons (vs_if (VW.vb (vw_or (vb_cmp (op_ne2 hr.units) od_ne (vp_of (vt_isi .list rfl (fr _ (by decide)) rfl (fr _ (by decide)) boot_tys.2.2.2.1 (vp_v 0))) (vp_of (vt_isi .list rfl (fr _ (by decide)) rfl (fr _ (by decide)) boot_tys.2.2.2.1 (vp_v 1))) (nomark _)) (vw_or1 (vb_cmp (op_ne2 hr.units) od_ne (vp_of (vt_isi .tuple rfl (fr _ (by decide)) rfl (fr _ (by decide)) boot_tys.2.2.2.2.1 (vp_v 0))) (vp_of (vt_isi .tuple rfl (fr _ (by decide)) rfl (fr _ (by decide)) boot_tys.2.2.2.2.1 (vp_v 1))) (nomark _))))) (vss_one (vs_ret vt_bl)) vss_nil) (vss_cons (vs_if (vb_cmp (op_ne2 hr.units) od_ne (vp_of (vt_callB call_len cd_len rfl (fr _ (by decide)) boot_more.1 (va_cons (vp_v 0) va_nil))) (vp_of (vt_callB call_len cd_len rfl (fr _ (by decide)) boot_more.1 (va_cons (vp_v 1) va_nil))) (nomark _)) (vss_one (vs_ret vt_bl)) vss_nil) (vss_cons (vs_for 2 PassesOwn.never rfl (vi_rng1 rfl (fr _ (by decide)) (va_cons (vp_of (vt_callB call_len cd_len rfl (fr _ (by decide)) boot_more.1 (va_cons (vp_v 1) va_nil))) va_nil)) sc_L_alike.nd (vss_one (vs_if (vb_not (vb_val (vp_of (vt_fn kn0 (hr.mono (by omega)) rfl (va_cons (vp_ix (vp_v 0) (vp_v 2)) (va_cons (vp_ix (vp_v 1) (vp_v 2)) va_nil)))))) (vss_one (vs_ret vt_bl)) vss_nil))) (vss_one (vs_ret vt_bl))))) vss_nil) (vss_one (vs_ret (vt_tk (vp_and (vp_not (vp_of (vt_isi .bool rfl (fr _ (by decide)) rfl (fr _ (by decide)) boot_tys.2.1 (vp_v 0)))) (vp_one (vp_of (vt_cmp (op_eq2 hr.units) od_eq (vp_v 0) (vp_v 1) (nomark _)))))))))
theorem kn_L_alike (hC : CsOk K cs) (hcf : ∀ ci ∈ cs, ci.fields = fieldsOf ci.name) (fr : Free mg frees) {f : Addr} {fd : FuncData} (F : Fun K "_law_alike" "_law_alike" s_L_alike f fd) (hm : mg "_law_alike" = some (.ref f)) (hb : Binds K fd ["found", "due"] []) {s : Nat → SpD} (hl : ∀ n ds Q, s n ds Q → ds.length = 2) (h0 : ∀ ds Q, ¬ s 0 ds Q)
    (hd : ∀ n ds Q, s (n + 1) ds Q → w_L_alike (s n) { nx := fun _ => Q .non, rt := fun d _ => Q d } (env0 3 ds)) : ∀ nr, Kn P w K mg base cs "_law_alike" (0 + nr + 1) ["found", "due"] (s nr)
  | 0 => ⟨f, fd, F.ok sc_L_alike (fun vs H Q E ⟨_, _, _, _, _, _, h, _⟩ => (h0 _ _ h).elim) (fun cdv A outer sh H vs Q E hr ⟨_, _, _, _, _, _, h, _⟩ => (h0 _ _ h).elim), hm, F.kp, hb⟩
  | n + 1 => by
    have ih := kn_L_alike hC hcf fr F hm hb hl h0 hd n
    exact ⟨f, fd, fn_pure F sc_L_alike (hl (n + 1)) (fun _ _ _ _ _ _ hr => vs_L_alike (nr := n + 1) hC hcf fr ih hr) (hd n), hm, F.kp, hb⟩
abbrev s_L_same_4 : Stmt := top 29
theorem sc_L_same_4 : FnScope ["chart", "parts", "tree", "found"] ["chart", "parts"] (defScope s_L_same_4) := ⟨rfl, rfl, rfl, by decide +kernel, rfl, by decide +kernel, by decide +kernel⟩
theorem vs_L_same_4 {sp0 : SpD} (hC : CsOk K cs) (hcf : ∀ ci ∈ cs, ci.fields = fieldsOf ci.name) (fr : Free mg frees) (kn0 : Kn P w K mg base cs "_law_alike" 12 ["found", "due"] sp0) {f : Addr} {cdv : Value} {A : Around} {outer : List PySem.Env} {sh : Shared} {H : Hp} {E : XK} (hr : Room 12 (A.deeper (envOfC "_law_same" (defScope s_L_same_4) sh.heap.objs.size f cdv))) :
    VSs (cxOf CX0 P w K mg base ["chart", "parts", "tree", "found"] "_law_same" (defScope s_L_same_4) f cdv A outer sh H E).nox cs [] (defBody s_L_same_4) (w_L_same_4 sp0) :=
  (vss_cons (vs_set 2 (vt_tk (vp_fld hC (vp_v 0))) sc_L_same_4.nd) (vss_cons (vs_set 3 (vt_lst (vm_cons (vt_tk (vp_fld hC (vp_v 0))) (vm_cons (vt_tk (vp_fld hC (vp_v 0))) (vm_cons (vt_tk (vp_fld hC (vp_v 2))) (vm_cons (vt_tk (vp_fld hC (vp_v 2))) (vm_cons (vt_tk (vp_fld hC (vp_v 2))) (vm_cons (vt_tk (vp_fld hC (vp_v 0))) (vm_cons (vt_tk (vp_fld hC (vp_v 0))) (vm_cons (vt_tk (vp_fld hC (vp_v 0))) vm_nil))))))))) sc_L_same_4.nd) (vss_one (vs_ret (vt_fn kn0 (hr.mono (by decide)) rfl (va_cons (vp_v 3) (va_cons (vp_v 1) va_nil)))))))
theorem kn_L_same_4 {sp0 : SpD} (hC : CsOk K cs) (hcf : ∀ ci ∈ cs, ci.fields = fieldsOf ci.name) (fr : Free mg frees) (kn0 : Kn P w K mg base cs "_law_alike" 12 ["found", "due"] sp0) {f : Addr} {fd : FuncData} (F : Fun K "_law_same" "_law_same" s_L_same_4 f fd) (hm : mg "_law_same" = some (.ref f)) (hb : Binds K fd ["chart", "parts"] []) {s : SpD} (hl : ∀ ds Q, s ds Q → ds.length = 2)
    (hd : ∀ ds Q, s ds Q → w_L_same_4 sp0 { nx := fun _ => Q .non, rt := fun d _ => Q d } (env0 4 ds)) : Kn P w K mg base cs "_law_same" 13 ["chart", "parts"] s :=
  ⟨f, fd, fn_pure F sc_L_same_4 hl (fun _ _ _ _ _ _ hr => vs_L_same_4 hC hcf fr kn0 hr) hd, hm, F.kp, hb⟩
abbrev s_law_35 : Stmt := top 35
theorem sc_law_35 : FnScope ["script", "parts", "chart", "found", "due", "box"] ["script"] (defScope s_law_35) := ⟨rfl, rfl, rfl, by decide +kernel, rfl, by decide +kernel, by decide +kernel⟩
theorem vs_law_35 {sp0 : SpD} {sp1 : SpD} {sp2 : SpD} {sp3 : SpD} {sp4 : SpD} (hC : CsOk K cs) (hcf : ∀ ci ∈ cs, ci.fields = fieldsOf ci.name) (fr : Free mg frees) (kn0 : Kn P w K mg base cs "_law_parts_by" 4 ["script"] sp0) (kn1 : Kn P w K mg base cs "_law_chart_by" 5 ["parts"] sp1) (kn2 : Kn P w K mg base cs "shown" 5 ["chart"] sp2) (kn3 : Kn P w K mg base cs "_law_rows" 4 ["parts", "boxes"] sp3) (kn4 : Kn P w K mg base cs "_law_same" 13 ["chart", "parts"] sp4) {f : Addr} {cdv : Value} {A : Around} {outer : List PySem.Env} {sh : Shared} {H : Hp} {E : XK} (hr : Room 13 (A.deeper (envOfC "law" (defScope s_law_35) sh.heap.objs.size f cdv))) :
    VSs (cxOf CX0 P w K mg base ["script", "parts", "chart", "found", "due", "box"] "law" (defScope s_law_35) f cdv A outer sh H E).nox cs [] (defBody s_law_35) (w_law_35 sp0 sp1 sp2 sp3 sp4) :=
  (vss_cons (vs_set 1 (vt_fn kn0 (hr.mono (by decide)) rfl (va_cons (vp_v 0) va_nil)) sc_law_35.nd) (vss_cons (vs_set 2 (vt_fn kn1 (hr.mono (by decide)) rfl (va_cons (vp_v 1) va_nil)) sc_law_35.nd) (vss_cons (vs_set 3 (vt_fn kn2 (hr.mono (by decide)) rfl (va_cons (vp_v 2) va_nil)) sc_law_35.nd) (vss_cons (vs_set 4 (vt_sm1 PySem.F.slot_str_join PySem.F.type_str_join mt_join os_join (vp_of vt_str) (vp_of (vt_fn kn3 (hr.mono (by decide)) rfl (va_cons (vp_v 1) (va_cons (vp_of (vt_lc 5 rfl sc_law_35.nd (vi_seq (vt_tk (vp_ix (vp_v 1) (vp_of vt_int)))) (blkOk_by (N := ["script", "parts", "chart", "found", "due", "box"]) (sc := defScope s_law_35) (by decide +kernel)) (fun _ _ _ _ _ => pg_name sc_law_35.nd rfl (Or.inl rfl)) (fun _ _ _ _ _ => vts_nil) (fun _ _ _ _ _ => (vt_tk (vp_ix (vp_v 5) (vp_of vt_int)))))) va_nil))))) sc_law_35.nd) (vss_one (vs_ret (vt_tk (vp_and (vp_of (vt_isi .str rfl (fr _ (by decide)) rfl (fr _ (by decide)) boot_tys.2.2.1 (vp_v 3))) (vp_and (vp_of (vt_cmp (op_eq2 hr.units) od_eq (vp_v 3) (vp_v 4) (nomark _))) (vp_one (vp_of (vt_fn kn4 (hr.mono (by decide)) rfl (va_cons (vp_v 2) (va_cons (vp_v 1) va_nil))))))))))))))
theorem kn_law_35 {sp0 : SpD} {sp1 : SpD} {sp2 : SpD} {sp3 : SpD} {sp4 : SpD} (hC : CsOk K cs) (hcf : ∀ ci ∈ cs, ci.fields = fieldsOf ci.name) (fr : Free mg frees) (kn0 : Kn P w K mg base cs "_law_parts_by" 4 ["script"] sp0) (kn1 : Kn P w K mg base cs "_law_chart_by" 5 ["parts"] sp1) (kn2 : Kn P w K mg base cs "shown" 5 ["chart"] sp2) (kn3 : Kn P w K mg base cs "_law_rows" 4 ["parts", "boxes"] sp3) (kn4 : Kn P w K mg base cs "_law_same" 13 ["chart", "parts"] sp4) {f : Addr} {fd : FuncData} (F : Fun K "law" "law" s_law_35 f fd) (hm : mg "law" = some (.ref f)) (hb : Binds K fd ["script"] []) {s : SpD} (hl : ∀ ds Q, s ds Q → ds.length = 1)
    (hd : ∀ ds Q, s ds Q → w_law_35 sp0 sp1 sp2 sp3 sp4 { nx := fun _ => Q .non, rt := fun d _ => Q d } (env0 6 ds)) : Kn P w K mg base cs "law" 14 ["script"] s :=
  ⟨f, fd, fn_pure F sc_law_35 hl (fun _ _ _ _ _ _ hr => vs_law_35 hC hcf fr kn0 kn1 kn2 kn3 kn4 hr) hd, hm, F.kp, hb⟩
end
end VL
namespace VL
open PySem L2 PyProof.Rows
theorem all_mk {l : PySem.W.OpenLaw} {w : World} {K : PySem.W.Frag} {h : Heap} {mg : Str → Option Value} {fa : Addr} (X : K.In h) (G : h.Ns mainGlobals mg) (hfa : mg "law" = some (.ref fa))
    {C_Tree : Addr}
    (aC_Tree : PySem.W.nsIn K mainGlobals "Tree" = some (some (.ref C_Tree)))
    (pg_Tree : PySem.W.plainGet K C_Tree Str.empty = true) (hd_Tree : PySem.W.hasDictIn K C_Tree = true) (po_Tree : PySem.W.plainOver K C_Tree = true) (sa_Tree : PySem.W.findIn K (.ref C_Tree) "__setattr__" = some (some (.builtin "object.__setattr__"))) (mk_Tree : PySem.W.makesIn K C_Tree = true) (kc_Tree : PySem.W.keepIn K (.ref C_Tree) = true)
    (n_Tree_kinds : PySem.W.findIn K (.ref C_Tree) "kinds" = some none)
    (n_Tree_elders : PySem.W.findIn K (.ref C_Tree) "elders" = some none)
    (n_Tree_starts : PySem.W.findIn K (.ref C_Tree) "starts" = some none)
    {C_Chart : Addr}
    (aC_Chart : PySem.W.nsIn K mainGlobals "Chart" = some (some (.ref C_Chart)))
    (pg_Chart : PySem.W.plainGet K C_Chart Str.empty = true) (hd_Chart : PySem.W.hasDictIn K C_Chart = true) (po_Chart : PySem.W.plainOver K C_Chart = true) (sa_Chart : PySem.W.findIn K (.ref C_Chart) "__setattr__" = some (some (.builtin "object.__setattr__"))) (mk_Chart : PySem.W.makesIn K C_Chart = true) (kc_Chart : PySem.W.keepIn K (.ref C_Chart) = true)
    (n_Chart_boxes : PySem.W.findIn K (.ref C_Chart) "boxes" = some none)
    (n_Chart_names : PySem.W.findIn K (.ref C_Chart) "names" = some none)
    (n_Chart_tree : PySem.W.findIn K (.ref C_Chart) "tree" = some none)
    (n_Chart_ins : PySem.W.findIn K (.ref C_Chart) "ins" = some none)
    (n_Chart_outs : PySem.W.findIn K (.ref C_Chart) "outs" = some none)
    (n_Chart_ways : PySem.W.findIn K (.ref C_Chart) "ways" = some none)
    {f_L_chain : Addr} {od_L_chain an_L_chain : Option Addr} {sl_L_chain : Array (Option Value)} {oc_L_chain kV_L_chain dc_L_chain pm_L_chain cd_L_chain ct_L_chain : Value}
    (a_L_chain : PySem.W.nsIn K mainGlobals "_law_chain" = some (some (.ref f_L_chain)))
    (l_L_chain : K.lookup f_L_chain = some ⟨oc_L_chain, od_L_chain, .func (PySem.W.fnOf "_law_chain" "_law_chain" (defArgs s_L_chain) (defBody s_L_chain) (defScope s_L_chain) .none kV_L_chain dc_L_chain pm_L_chain an_L_chain cd_L_chain ct_L_chain), sl_L_chain⟩) (c_L_chain : PySem.W.codeIn K cd_L_chain "_law_chain" = true) (k_L_chain : PySem.W.keepIn K (.ref f_L_chain) = true)
    {f_L_elders_by_2 : Addr} {od_L_elders_by_2 an_L_elders_by_2 : Option Addr} {sl_L_elders_by_2 : Array (Option Value)} {oc_L_elders_by_2 kV_L_elders_by_2 dc_L_elders_by_2 pm_L_elders_by_2 cd_L_elders_by_2 ct_L_elders_by_2 : Value}
    (a_L_elders_by_2 : PySem.W.nsIn K mainGlobals "_law_elders_by" = some (some (.ref f_L_elders_by_2)))
    (l_L_elders_by_2 : K.lookup f_L_elders_by_2 = some ⟨oc_L_elders_by_2, od_L_elders_by_2, .func (PySem.W.fnOf "_law_elders_by" "_law_elders_by" (defArgs s_L_elders_by_2) (defBody s_L_elders_by_2) (defScope s_L_elders_by_2) .none kV_L_elders_by_2 dc_L_elders_by_2 pm_L_elders_by_2 an_L_elders_by_2 cd_L_elders_by_2 ct_L_elders_by_2), sl_L_elders_by_2⟩) (c_L_elders_by_2 : PySem.W.codeIn K cd_L_elders_by_2 "_law_elders_by" = true) (k_L_elders_by_2 : PySem.W.keepIn K (.ref f_L_elders_by_2) = true)
    {f_L_cell_at : Addr} {od_L_cell_at an_L_cell_at : Option Addr} {sl_L_cell_at : Array (Option Value)} {oc_L_cell_at kV_L_cell_at dc_L_cell_at pm_L_cell_at cd_L_cell_at ct_L_cell_at : Value}
    (a_L_cell_at : PySem.W.nsIn K mainGlobals "_law_cell_at" = some (some (.ref f_L_cell_at)))
    (l_L_cell_at : K.lookup f_L_cell_at = some ⟨oc_L_cell_at, od_L_cell_at, .func (PySem.W.fnOf "_law_cell_at" "_law_cell_at" (defArgs s_L_cell_at) (defBody s_L_cell_at) (defScope s_L_cell_at) .none kV_L_cell_at dc_L_cell_at pm_L_cell_at an_L_cell_at cd_L_cell_at ct_L_cell_at), sl_L_cell_at⟩) (c_L_cell_at : PySem.W.codeIn K cd_L_cell_at "_law_cell_at" = true) (k_L_cell_at : PySem.W.keepIn K (.ref f_L_cell_at) = true)
    {f_L_name_by : Addr} {od_L_name_by an_L_name_by : Option Addr} {sl_L_name_by : Array (Option Value)} {oc_L_name_by kV_L_name_by dc_L_name_by pm_L_name_by cd_L_name_by ct_L_name_by : Value}
    (a_L_name_by : PySem.W.nsIn K mainGlobals "_law_name_by" = some (some (.ref f_L_name_by)))
    (l_L_name_by : K.lookup f_L_name_by = some ⟨oc_L_name_by, od_L_name_by, .func (PySem.W.fnOf "_law_name_by" "_law_name_by" (defArgs s_L_name_by) (defBody s_L_name_by) (defScope s_L_name_by) .none kV_L_name_by dc_L_name_by pm_L_name_by an_L_name_by cd_L_name_by ct_L_name_by), sl_L_name_by⟩) (c_L_name_by : PySem.W.codeIn K cd_L_name_by "_law_name_by" = true) (k_L_name_by : PySem.W.keepIn K (.ref f_L_name_by) = true)
    {f_L_names_by : Addr} {od_L_names_by an_L_names_by : Option Addr} {sl_L_names_by : Array (Option Value)} {oc_L_names_by kV_L_names_by dc_L_names_by pm_L_names_by cd_L_names_by ct_L_names_by : Value}
    (a_L_names_by : PySem.W.nsIn K mainGlobals "_law_names_by" = some (some (.ref f_L_names_by)))
    (l_L_names_by : K.lookup f_L_names_by = some ⟨oc_L_names_by, od_L_names_by, .func (PySem.W.fnOf "_law_names_by" "_law_names_by" (defArgs s_L_names_by) (defBody s_L_names_by) (defScope s_L_names_by) .none kV_L_names_by dc_L_names_by pm_L_names_by an_L_names_by cd_L_names_by ct_L_names_by), sl_L_names_by⟩) (c_L_names_by : PySem.W.codeIn K cd_L_names_by "_law_names_by" = true) (k_L_names_by : PySem.W.keepIn K (.ref f_L_names_by) = true)
    {f_L_kinds_by : Addr} {od_L_kinds_by an_L_kinds_by : Option Addr} {sl_L_kinds_by : Array (Option Value)} {oc_L_kinds_by kV_L_kinds_by dc_L_kinds_by pm_L_kinds_by cd_L_kinds_by ct_L_kinds_by : Value}
    (a_L_kinds_by : PySem.W.nsIn K mainGlobals "_law_kinds_by" = some (some (.ref f_L_kinds_by)))
    (l_L_kinds_by : K.lookup f_L_kinds_by = some ⟨oc_L_kinds_by, od_L_kinds_by, .func (PySem.W.fnOf "_law_kinds_by" "_law_kinds_by" (defArgs s_L_kinds_by) (defBody s_L_kinds_by) (defScope s_L_kinds_by) .none kV_L_kinds_by dc_L_kinds_by pm_L_kinds_by an_L_kinds_by cd_L_kinds_by ct_L_kinds_by), sl_L_kinds_by⟩) (c_L_kinds_by : PySem.W.codeIn K cd_L_kinds_by "_law_kinds_by" = true) (k_L_kinds_by : PySem.W.keepIn K (.ref f_L_kinds_by) = true)
    {f_L_number_by : Addr} {od_L_number_by an_L_number_by : Option Addr} {sl_L_number_by : Array (Option Value)} {oc_L_number_by kV_L_number_by dc_L_number_by pm_L_number_by cd_L_number_by ct_L_number_by : Value}
    (a_L_number_by : PySem.W.nsIn K mainGlobals "_law_number_by" = some (some (.ref f_L_number_by)))
    (l_L_number_by : K.lookup f_L_number_by = some ⟨oc_L_number_by, od_L_number_by, .func (PySem.W.fnOf "_law_number_by" "_law_number_by" (defArgs s_L_number_by) (defBody s_L_number_by) (defScope s_L_number_by) .none kV_L_number_by dc_L_number_by pm_L_number_by an_L_number_by cd_L_number_by ct_L_number_by), sl_L_number_by⟩) (c_L_number_by : PySem.W.codeIn K cd_L_number_by "_law_number_by" = true) (k_L_number_by : PySem.W.keepIn K (.ref f_L_number_by) = true)
    {f_L_deed_by : Addr} {od_L_deed_by an_L_deed_by : Option Addr} {sl_L_deed_by : Array (Option Value)} {oc_L_deed_by kV_L_deed_by dc_L_deed_by pm_L_deed_by cd_L_deed_by ct_L_deed_by : Value}
    (a_L_deed_by : PySem.W.nsIn K mainGlobals "_law_deed_by" = some (some (.ref f_L_deed_by)))
    (l_L_deed_by : K.lookup f_L_deed_by = some ⟨oc_L_deed_by, od_L_deed_by, .func (PySem.W.fnOf "_law_deed_by" "_law_deed_by" (defArgs s_L_deed_by) (defBody s_L_deed_by) (defScope s_L_deed_by) .none kV_L_deed_by dc_L_deed_by pm_L_deed_by an_L_deed_by cd_L_deed_by ct_L_deed_by), sl_L_deed_by⟩) (c_L_deed_by : PySem.W.codeIn K cd_L_deed_by "_law_deed_by" = true) (k_L_deed_by : PySem.W.keepIn K (.ref f_L_deed_by) = true)
    {f_L_way_by : Addr} {od_L_way_by an_L_way_by : Option Addr} {sl_L_way_by : Array (Option Value)} {oc_L_way_by kV_L_way_by dc_L_way_by pm_L_way_by cd_L_way_by ct_L_way_by : Value}
    (a_L_way_by : PySem.W.nsIn K mainGlobals "_law_way_by" = some (some (.ref f_L_way_by)))
    (l_L_way_by : K.lookup f_L_way_by = some ⟨oc_L_way_by, od_L_way_by, .func (PySem.W.fnOf "_law_way_by" "_law_way_by" (defArgs s_L_way_by) (defBody s_L_way_by) (defScope s_L_way_by) .none kV_L_way_by dc_L_way_by pm_L_way_by an_L_way_by cd_L_way_by ct_L_way_by), sl_L_way_by⟩) (c_L_way_by : PySem.W.codeIn K cd_L_way_by "_law_way_by" = true) (k_L_way_by : PySem.W.keepIn K (.ref f_L_way_by) = true)
    {f_L_ask_by : Addr} {od_L_ask_by an_L_ask_by : Option Addr} {sl_L_ask_by : Array (Option Value)} {oc_L_ask_by kV_L_ask_by dc_L_ask_by pm_L_ask_by cd_L_ask_by ct_L_ask_by : Value}
    (a_L_ask_by : PySem.W.nsIn K mainGlobals "_law_ask_by" = some (some (.ref f_L_ask_by)))
    (l_L_ask_by : K.lookup f_L_ask_by = some ⟨oc_L_ask_by, od_L_ask_by, .func (PySem.W.fnOf "_law_ask_by" "_law_ask_by" (defArgs s_L_ask_by) (defBody s_L_ask_by) (defScope s_L_ask_by) .none kV_L_ask_by dc_L_ask_by pm_L_ask_by an_L_ask_by cd_L_ask_by ct_L_ask_by), sl_L_ask_by⟩) (c_L_ask_by : PySem.W.codeIn K cd_L_ask_by "_law_ask_by" = true) (k_L_ask_by : PySem.W.keepIn K (.ref f_L_ask_by) = true)
    {f_L_owns_by : Addr} {od_L_owns_by an_L_owns_by : Option Addr} {sl_L_owns_by : Array (Option Value)} {oc_L_owns_by kV_L_owns_by dc_L_owns_by pm_L_owns_by cd_L_owns_by ct_L_owns_by : Value}
    (a_L_owns_by : PySem.W.nsIn K mainGlobals "_law_owns_by" = some (some (.ref f_L_owns_by)))
    (l_L_owns_by : K.lookup f_L_owns_by = some ⟨oc_L_owns_by, od_L_owns_by, .func (PySem.W.fnOf "_law_owns_by" "_law_owns_by" (defArgs s_L_owns_by) (defBody s_L_owns_by) (defScope s_L_owns_by) .none kV_L_owns_by dc_L_owns_by pm_L_owns_by an_L_owns_by cd_L_owns_by ct_L_owns_by), sl_L_owns_by⟩) (c_L_owns_by : PySem.W.codeIn K cd_L_owns_by "_law_owns_by" = true) (k_L_owns_by : PySem.W.keepIn K (.ref f_L_owns_by) = true)
    {f_L_parts_by : Addr} {od_L_parts_by an_L_parts_by : Option Addr} {sl_L_parts_by : Array (Option Value)} {oc_L_parts_by kV_L_parts_by dc_L_parts_by pm_L_parts_by cd_L_parts_by ct_L_parts_by : Value}
    (a_L_parts_by : PySem.W.nsIn K mainGlobals "_law_parts_by" = some (some (.ref f_L_parts_by)))
    (l_L_parts_by : K.lookup f_L_parts_by = some ⟨oc_L_parts_by, od_L_parts_by, .func (PySem.W.fnOf "_law_parts_by" "_law_parts_by" (defArgs s_L_parts_by) (defBody s_L_parts_by) (defScope s_L_parts_by) .none kV_L_parts_by dc_L_parts_by pm_L_parts_by an_L_parts_by cd_L_parts_by ct_L_parts_by), sl_L_parts_by⟩) (c_L_parts_by : PySem.W.codeIn K cd_L_parts_by "_law_parts_by" = true) (k_L_parts_by : PySem.W.keepIn K (.ref f_L_parts_by) = true)
    {f_Tree_init : Addr} {od_Tree_init an_Tree_init : Option Addr} {sl_Tree_init : Array (Option Value)} {oc_Tree_init kV_Tree_init dc_Tree_init pm_Tree_init cd_Tree_init ct_Tree_init : Value}
    (a_Tree_init : PySem.W.findIn K (.ref C_Tree) "__init__" = some (some (.ref f_Tree_init))) (i_Tree_init : PySem.W.isFn K (.ref f_Tree_init) = true)
    (l_Tree_init : K.lookup f_Tree_init = some ⟨oc_Tree_init, od_Tree_init, .func (PySem.W.fnOf "__init__" "Tree.__init__" (defArgs s_Tree_init) (defBody s_Tree_init) (defScope s_Tree_init) .none kV_Tree_init dc_Tree_init pm_Tree_init an_Tree_init cd_Tree_init ct_Tree_init), sl_Tree_init⟩) (c_Tree_init : PySem.W.codeIn K cd_Tree_init "Tree.__init__" = true) (k_Tree_init : PySem.W.keepIn K (.ref f_Tree_init) = true)
    {f_Chart_init : Addr} {od_Chart_init an_Chart_init : Option Addr} {sl_Chart_init : Array (Option Value)} {oc_Chart_init kV_Chart_init dc_Chart_init pm_Chart_init cd_Chart_init ct_Chart_init : Value}
    (a_Chart_init : PySem.W.findIn K (.ref C_Chart) "__init__" = some (some (.ref f_Chart_init))) (i_Chart_init : PySem.W.isFn K (.ref f_Chart_init) = true)
    (l_Chart_init : K.lookup f_Chart_init = some ⟨oc_Chart_init, od_Chart_init, .func (PySem.W.fnOf "__init__" "Chart.__init__" (defArgs s_Chart_init) (defBody s_Chart_init) (defScope s_Chart_init) .none kV_Chart_init dc_Chart_init pm_Chart_init an_Chart_init cd_Chart_init ct_Chart_init), sl_Chart_init⟩) (c_Chart_init : PySem.W.codeIn K cd_Chart_init "Chart.__init__" = true) (k_Chart_init : PySem.W.keepIn K (.ref f_Chart_init) = true)
    {f_L_chart_by : Addr} {od_L_chart_by an_L_chart_by : Option Addr} {sl_L_chart_by : Array (Option Value)} {oc_L_chart_by kV_L_chart_by dc_L_chart_by pm_L_chart_by cd_L_chart_by ct_L_chart_by : Value}
    (a_L_chart_by : PySem.W.nsIn K mainGlobals "_law_chart_by" = some (some (.ref f_L_chart_by)))
    (l_L_chart_by : K.lookup f_L_chart_by = some ⟨oc_L_chart_by, od_L_chart_by, .func (PySem.W.fnOf "_law_chart_by" "_law_chart_by" (defArgs s_L_chart_by) (defBody s_L_chart_by) (defScope s_L_chart_by) .none kV_L_chart_by dc_L_chart_by pm_L_chart_by an_L_chart_by cd_L_chart_by ct_L_chart_by), sl_L_chart_by⟩) (c_L_chart_by : PySem.W.codeIn K cd_L_chart_by "_law_chart_by" = true) (k_L_chart_by : PySem.W.keepIn K (.ref f_L_chart_by) = true)
    {f_term_text : Addr} {od_term_text an_term_text : Option Addr} {sl_term_text : Array (Option Value)} {oc_term_text kV_term_text dc_term_text pm_term_text cd_term_text ct_term_text : Value}
    (a_term_text : PySem.W.nsIn K mainGlobals "term_text" = some (some (.ref f_term_text)))
    (l_term_text : K.lookup f_term_text = some ⟨oc_term_text, od_term_text, .func (PySem.W.fnOf "term_text" "term_text" (defArgs s_term_text) (defBody s_term_text) (defScope s_term_text) .none kV_term_text dc_term_text pm_term_text an_term_text cd_term_text ct_term_text), sl_term_text⟩) (c_term_text : PySem.W.codeIn K cd_term_text "term_text" = true) (k_term_text : PySem.W.keepIn K (.ref f_term_text) = true)
    {f_deed_text : Addr} {od_deed_text an_deed_text : Option Addr} {sl_deed_text : Array (Option Value)} {oc_deed_text kV_deed_text dc_deed_text pm_deed_text cd_deed_text ct_deed_text : Value}
    (a_deed_text : PySem.W.nsIn K mainGlobals "deed_text" = some (some (.ref f_deed_text)))
    (l_deed_text : K.lookup f_deed_text = some ⟨oc_deed_text, od_deed_text, .func (PySem.W.fnOf "deed_text" "deed_text" (defArgs s_deed_text) (defBody s_deed_text) (defScope s_deed_text) .none kV_deed_text dc_deed_text pm_deed_text an_deed_text cd_deed_text ct_deed_text), sl_deed_text⟩) (c_deed_text : PySem.W.codeIn K cd_deed_text "deed_text" = true) (k_deed_text : PySem.W.keepIn K (.ref f_deed_text) = true)
    {f_ask_text : Addr} {od_ask_text an_ask_text : Option Addr} {sl_ask_text : Array (Option Value)} {oc_ask_text kV_ask_text dc_ask_text pm_ask_text cd_ask_text ct_ask_text : Value}
    (a_ask_text : PySem.W.nsIn K mainGlobals "ask_text" = some (some (.ref f_ask_text)))
    (l_ask_text : K.lookup f_ask_text = some ⟨oc_ask_text, od_ask_text, .func (PySem.W.fnOf "ask_text" "ask_text" (defArgs s_ask_text) (defBody s_ask_text) (defScope s_ask_text) .none kV_ask_text dc_ask_text pm_ask_text an_ask_text cd_ask_text ct_ask_text), sl_ask_text⟩) (c_ask_text : PySem.W.codeIn K cd_ask_text "ask_text" = true) (k_ask_text : PySem.W.keepIn K (.ref f_ask_text) = true)
    {f_way_text : Addr} {od_way_text an_way_text : Option Addr} {sl_way_text : Array (Option Value)} {oc_way_text kV_way_text dc_way_text pm_way_text cd_way_text ct_way_text : Value}
    (a_way_text : PySem.W.nsIn K mainGlobals "way_text" = some (some (.ref f_way_text)))
    (l_way_text : K.lookup f_way_text = some ⟨oc_way_text, od_way_text, .func (PySem.W.fnOf "way_text" "way_text" (defArgs s_way_text) (defBody s_way_text) (defScope s_way_text) .none kV_way_text dc_way_text pm_way_text an_way_text cd_way_text ct_way_text), sl_way_text⟩) (c_way_text : PySem.W.codeIn K cd_way_text "way_text" = true) (k_way_text : PySem.W.keepIn K (.ref f_way_text) = true)
    {f_own_rows : Addr} {od_own_rows an_own_rows : Option Addr} {sl_own_rows : Array (Option Value)} {oc_own_rows kV_own_rows dc_own_rows pm_own_rows cd_own_rows ct_own_rows : Value}
    (a_own_rows : PySem.W.nsIn K mainGlobals "own_rows" = some (some (.ref f_own_rows)))
    (l_own_rows : K.lookup f_own_rows = some ⟨oc_own_rows, od_own_rows, .func (PySem.W.fnOf "own_rows" "own_rows" (defArgs s_own_rows) (defBody s_own_rows) (defScope s_own_rows) .none kV_own_rows dc_own_rows pm_own_rows an_own_rows cd_own_rows ct_own_rows), sl_own_rows⟩) (c_own_rows : PySem.W.codeIn K cd_own_rows "own_rows" = true) (k_own_rows : PySem.W.keepIn K (.ref f_own_rows) = true)
    {f_above : Addr} {od_above an_above : Option Addr} {sl_above : Array (Option Value)} {oc_above kV_above dc_above pm_above cd_above ct_above : Value}
    (a_above : PySem.W.nsIn K mainGlobals "above" = some (some (.ref f_above)))
    (l_above : K.lookup f_above = some ⟨oc_above, od_above, .func (PySem.W.fnOf "above" "above" (defArgs s_above) (defBody s_above) (defScope s_above) .none kV_above dc_above pm_above an_above cd_above ct_above), sl_above⟩) (c_above : PySem.W.codeIn K cd_above "above" = true) (k_above : PySem.W.keepIn K (.ref f_above) = true)
    {f_depth : Addr} {od_depth an_depth : Option Addr} {sl_depth : Array (Option Value)} {oc_depth kV_depth dc_depth pm_depth cd_depth ct_depth : Value}
    (a_depth : PySem.W.nsIn K mainGlobals "depth" = some (some (.ref f_depth)))
    (l_depth : K.lookup f_depth = some ⟨oc_depth, od_depth, .func (PySem.W.fnOf "depth" "depth" (defArgs s_depth) (defBody s_depth) (defScope s_depth) .none kV_depth dc_depth pm_depth an_depth cd_depth ct_depth), sl_depth⟩) (c_depth : PySem.W.codeIn K cd_depth "depth" = true) (k_depth : PySem.W.keepIn K (.ref f_depth) = true)
    {f_mood_text : Addr} {od_mood_text an_mood_text : Option Addr} {sl_mood_text : Array (Option Value)} {oc_mood_text kV_mood_text dc_mood_text pm_mood_text cd_mood_text ct_mood_text : Value}
    (a_mood_text : PySem.W.nsIn K mainGlobals "mood_text" = some (some (.ref f_mood_text)))
    (l_mood_text : K.lookup f_mood_text = some ⟨oc_mood_text, od_mood_text, .func (PySem.W.fnOf "mood_text" "mood_text" (defArgs s_mood_text) (defBody s_mood_text) (defScope s_mood_text) .none kV_mood_text dc_mood_text pm_mood_text an_mood_text cd_mood_text ct_mood_text), sl_mood_text⟩) (c_mood_text : PySem.W.codeIn K cd_mood_text "mood_text" = true) (k_mood_text : PySem.W.keepIn K (.ref f_mood_text) = true)
    {f_shown : Addr} {od_shown an_shown : Option Addr} {sl_shown : Array (Option Value)} {oc_shown kV_shown dc_shown pm_shown cd_shown ct_shown : Value}
    (a_shown : PySem.W.nsIn K mainGlobals "shown" = some (some (.ref f_shown)))
    (l_shown : K.lookup f_shown = some ⟨oc_shown, od_shown, .func (PySem.W.fnOf "shown" "shown" (defArgs s_shown) (defBody s_shown) (defScope s_shown) .none kV_shown dc_shown pm_shown an_shown cd_shown ct_shown), sl_shown⟩) (c_shown : PySem.W.codeIn K cd_shown "shown" = true) (k_shown : PySem.W.keepIn K (.ref f_shown) = true)
    {f_L_term_text : Addr} {od_L_term_text an_L_term_text : Option Addr} {sl_L_term_text : Array (Option Value)} {oc_L_term_text kV_L_term_text dc_L_term_text pm_L_term_text cd_L_term_text ct_L_term_text : Value}
    (a_L_term_text : PySem.W.nsIn K mainGlobals "_law_term_text" = some (some (.ref f_L_term_text)))
    (l_L_term_text : K.lookup f_L_term_text = some ⟨oc_L_term_text, od_L_term_text, .func (PySem.W.fnOf "_law_term_text" "_law_term_text" (defArgs s_L_term_text) (defBody s_L_term_text) (defScope s_L_term_text) .none kV_L_term_text dc_L_term_text pm_L_term_text an_L_term_text cd_L_term_text ct_L_term_text), sl_L_term_text⟩) (c_L_term_text : PySem.W.codeIn K cd_L_term_text "_law_term_text" = true) (k_L_term_text : PySem.W.keepIn K (.ref f_L_term_text) = true)
    {f_L_deed_text : Addr} {od_L_deed_text an_L_deed_text : Option Addr} {sl_L_deed_text : Array (Option Value)} {oc_L_deed_text kV_L_deed_text dc_L_deed_text pm_L_deed_text cd_L_deed_text ct_L_deed_text : Value}
    (a_L_deed_text : PySem.W.nsIn K mainGlobals "_law_deed_text" = some (some (.ref f_L_deed_text)))
    (l_L_deed_text : K.lookup f_L_deed_text = some ⟨oc_L_deed_text, od_L_deed_text, .func (PySem.W.fnOf "_law_deed_text" "_law_deed_text" (defArgs s_L_deed_text) (defBody s_L_deed_text) (defScope s_L_deed_text) .none kV_L_deed_text dc_L_deed_text pm_L_deed_text an_L_deed_text cd_L_deed_text ct_L_deed_text), sl_L_deed_text⟩) (c_L_deed_text : PySem.W.codeIn K cd_L_deed_text "_law_deed_text" = true) (k_L_deed_text : PySem.W.keepIn K (.ref f_L_deed_text) = true)
    {f_L_ask_text : Addr} {od_L_ask_text an_L_ask_text : Option Addr} {sl_L_ask_text : Array (Option Value)} {oc_L_ask_text kV_L_ask_text dc_L_ask_text pm_L_ask_text cd_L_ask_text ct_L_ask_text : Value}
    (a_L_ask_text : PySem.W.nsIn K mainGlobals "_law_ask_text" = some (some (.ref f_L_ask_text)))
    (l_L_ask_text : K.lookup f_L_ask_text = some ⟨oc_L_ask_text, od_L_ask_text, .func (PySem.W.fnOf "_law_ask_text" "_law_ask_text" (defArgs s_L_ask_text) (defBody s_L_ask_text) (defScope s_L_ask_text) .none kV_L_ask_text dc_L_ask_text pm_L_ask_text an_L_ask_text cd_L_ask_text ct_L_ask_text), sl_L_ask_text⟩) (c_L_ask_text : PySem.W.codeIn K cd_L_ask_text "_law_ask_text" = true) (k_L_ask_text : PySem.W.keepIn K (.ref f_L_ask_text) = true)
    {f_L_way_text : Addr} {od_L_way_text an_L_way_text : Option Addr} {sl_L_way_text : Array (Option Value)} {oc_L_way_text kV_L_way_text dc_L_way_text pm_L_way_text cd_L_way_text ct_L_way_text : Value}
    (a_L_way_text : PySem.W.nsIn K mainGlobals "_law_way_text" = some (some (.ref f_L_way_text)))
    (l_L_way_text : K.lookup f_L_way_text = some ⟨oc_L_way_text, od_L_way_text, .func (PySem.W.fnOf "_law_way_text" "_law_way_text" (defArgs s_L_way_text) (defBody s_L_way_text) (defScope s_L_way_text) .none kV_L_way_text dc_L_way_text pm_L_way_text an_L_way_text cd_L_way_text ct_L_way_text), sl_L_way_text⟩) (c_L_way_text : PySem.W.codeIn K cd_L_way_text "_law_way_text" = true) (k_L_way_text : PySem.W.keepIn K (.ref f_L_way_text) = true)
    {f_L_rows_2 : Addr} {od_L_rows_2 an_L_rows_2 : Option Addr} {sl_L_rows_2 : Array (Option Value)} {oc_L_rows_2 kV_L_rows_2 dc_L_rows_2 pm_L_rows_2 cd_L_rows_2 ct_L_rows_2 : Value}
    (a_L_rows_2 : PySem.W.nsIn K mainGlobals "_law_rows" = some (some (.ref f_L_rows_2)))
    (l_L_rows_2 : K.lookup f_L_rows_2 = some ⟨oc_L_rows_2, od_L_rows_2, .func (PySem.W.fnOf "_law_rows" "_law_rows" (defArgs s_L_rows_2) (defBody s_L_rows_2) (defScope s_L_rows_2) .none kV_L_rows_2 dc_L_rows_2 pm_L_rows_2 an_L_rows_2 cd_L_rows_2 ct_L_rows_2), sl_L_rows_2⟩) (c_L_rows_2 : PySem.W.codeIn K cd_L_rows_2 "_law_rows" = true) (k_L_rows_2 : PySem.W.keepIn K (.ref f_L_rows_2) = true)
    {f_L_alike : Addr} {od_L_alike an_L_alike : Option Addr} {sl_L_alike : Array (Option Value)} {oc_L_alike kV_L_alike dc_L_alike pm_L_alike cd_L_alike ct_L_alike : Value}
    (a_L_alike : PySem.W.nsIn K mainGlobals "_law_alike" = some (some (.ref f_L_alike)))
    (l_L_alike : K.lookup f_L_alike = some ⟨oc_L_alike, od_L_alike, .func (PySem.W.fnOf "_law_alike" "_law_alike" (defArgs s_L_alike) (defBody s_L_alike) (defScope s_L_alike) .none kV_L_alike dc_L_alike pm_L_alike an_L_alike cd_L_alike ct_L_alike), sl_L_alike⟩) (c_L_alike : PySem.W.codeIn K cd_L_alike "_law_alike" = true) (k_L_alike : PySem.W.keepIn K (.ref f_L_alike) = true)
    {f_L_same_4 : Addr} {od_L_same_4 an_L_same_4 : Option Addr} {sl_L_same_4 : Array (Option Value)} {oc_L_same_4 kV_L_same_4 dc_L_same_4 pm_L_same_4 cd_L_same_4 ct_L_same_4 : Value}
    (a_L_same_4 : PySem.W.nsIn K mainGlobals "_law_same" = some (some (.ref f_L_same_4)))
    (l_L_same_4 : K.lookup f_L_same_4 = some ⟨oc_L_same_4, od_L_same_4, .func (PySem.W.fnOf "_law_same" "_law_same" (defArgs s_L_same_4) (defBody s_L_same_4) (defScope s_L_same_4) .none kV_L_same_4 dc_L_same_4 pm_L_same_4 an_L_same_4 cd_L_same_4 ct_L_same_4), sl_L_same_4⟩) (c_L_same_4 : PySem.W.codeIn K cd_L_same_4 "_law_same" = true) (k_L_same_4 : PySem.W.keepIn K (.ref f_L_same_4) = true)
    {f_law_35 : Addr} {od_law_35 an_law_35 : Option Addr} {sl_law_35 : Array (Option Value)} {oc_law_35 kV_law_35 dc_law_35 pm_law_35 cd_law_35 ct_law_35 : Value}
    (a_law_35 : PySem.W.nsIn K mainGlobals "law" = some (some (.ref f_law_35)))
    (l_law_35 : K.lookup f_law_35 = some ⟨oc_law_35, od_law_35, .func (PySem.W.fnOf "law" "law" (defArgs s_law_35) (defBody s_law_35) (defScope s_law_35) .none kV_law_35 dc_law_35 pm_law_35 an_law_35 cd_law_35 ct_law_35), sl_law_35⟩) (c_law_35 : PySem.W.codeIn K cd_law_35 "law" = true) (k_law_35 : PySem.W.keepIn K (.ref f_law_35) = true)
    (z_abs : PySem.W.nsIn K mainGlobals "abs" = some none) (z_bool : PySem.W.nsIn K mainGlobals "bool" = some none) (z_int : PySem.W.nsIn K mainGlobals "int" = some none) (z_isinstance : PySem.W.nsIn K mainGlobals "isinstance" = some none) (z_len : PySem.W.nsIn K mainGlobals "len" = some none) (z_list : PySem.W.nsIn K mainGlobals "list" = some none) (z_min : PySem.W.nsIn K mainGlobals "min" = some none) (z_range : PySem.W.nsIn K mainGlobals "range" = some none) (z_str : PySem.W.nsIn K mainGlobals "str" = some none) (z_tuple : PySem.W.nsIn K mainGlobals "tuple" = some none) :
    ∃ fd : FuncData, (∀ (s : Shared) (v : Value), BindsTo s fd ⟨[v], []⟩ [("script", v)]) ∧ ∀ base : Heap, K.In base → base.Ns mainGlobals mg → FnOk l.prog w K mg base CX0 14 fa fd ["script"] (spTop K [] 63) := by
  have e := hfa.symm.trans (PySem.W.mg_of X G a_law_35)
  cases e
  have hC : CsOk K ⟨[⟨"Tree", C_Tree, fieldsOf "Tree"⟩, ⟨"Chart", C_Chart, fieldsOf "Chart"⟩], ([] : List ((Addr × Addr) × Str)).map fun p => (p.1.2, p.2)⟩ := fun ci m => by
    have m : ci ∈ ([⟨"Tree", C_Tree, fieldsOf "Tree"⟩, ⟨"Chart", C_Chart, fieldsOf "Chart"⟩] : List CI) := m
    simp only [List.mem_cons, List.not_mem_nil, or_false] at m
    rcases m with rfl | rfl
    · refine ⟨⟨pg_Tree, hd_Tree, po_Tree, sa_Tree⟩, fun n hn => ?_⟩
      have hn : n ∈ (["kinds", "elders", "starts"] : List Str) := hn
      simp only [List.mem_cons, List.not_mem_nil, or_false] at hn
      rcases hn with rfl | rfl | rfl
      · exact n_Tree_kinds
      · exact n_Tree_elders
      · exact n_Tree_starts
    · refine ⟨⟨pg_Chart, hd_Chart, po_Chart, sa_Chart⟩, fun n hn => ?_⟩
      have hn : n ∈ (["boxes", "names", "tree", "ins", "outs", "ways"] : List Str) := hn
      simp only [List.mem_cons, List.not_mem_nil, or_false] at hn
      rcases hn with rfl | rfl | rfl | rfl | rfl | rfl
      · exact n_Chart_boxes
      · exact n_Chart_names
      · exact n_Chart_tree
      · exact n_Chart_ins
      · exact n_Chart_outs
      · exact n_Chart_ways
  have hcf : ∀ ci ∈ (⟨[⟨"Tree", C_Tree, fieldsOf "Tree"⟩, ⟨"Chart", C_Chart, fieldsOf "Chart"⟩], ([] : List ((Addr × Addr) × Str)).map fun p => (p.1.2, p.2)⟩ : Cs), ci.fields = fieldsOf ci.name := fun ci m => by
    have m : ci ∈ ([⟨"Tree", C_Tree, fieldsOf "Tree"⟩, ⟨"Chart", C_Chart, fieldsOf "Chart"⟩] : List CI) := m
    simp only [List.mem_cons, List.not_mem_nil, or_false] at m
    rcases m with rfl | rfl <;> rfl
  have fr : Free mg frees := fun n m => by
    simp only [frees, List.mem_cons, List.not_mem_nil, or_false] at m
    rcases m with rfl | rfl | rfl | rfl | rfl | rfl | rfl | rfl | rfl | rfl
    · exact PySem.W.mg_none_of X G z_abs
    · exact PySem.W.mg_none_of X G z_bool
    · exact PySem.W.mg_none_of X G z_int
    · exact PySem.W.mg_none_of X G z_isinstance
    · exact PySem.W.mg_none_of X G z_len
    · exact PySem.W.mg_none_of X G z_list
    · exact PySem.W.mg_none_of X G z_min
    · exact PySem.W.mg_none_of X G z_range
    · exact PySem.W.mg_none_of X G z_str
    · exact PySem.W.mg_none_of X G z_tuple
  have F_L_chain := fun_mk (st := s_L_chain) l_L_chain c_L_chain k_L_chain
  have b_L_chain := F_L_chain.binds (ps := ["elders", "mood"]) fun _ _ _ _ _ _ us hl => match us, hl with | [_, _], _ => rfl
  have F_L_elders_by_2 := fun_mk (st := s_L_elders_by_2) l_L_elders_by_2 c_L_elders_by_2 k_L_elders_by_2
  have b_L_elders_by_2 := F_L_elders_by_2.binds (ps := ["items"]) fun _ _ _ _ _ _ us hl => match us, hl with | [_], _ => rfl
  have F_L_cell_at := fun_mk (st := s_L_cell_at) l_L_cell_at c_L_cell_at k_L_cell_at
  have b_L_cell_at := F_L_cell_at.binds (ps := ["script", "k"]) fun _ _ _ _ _ _ us hl => match us, hl with | [_, _], _ => rfl
  have F_L_name_by := fun_mk (st := s_L_name_by) l_L_name_by c_L_name_by k_L_name_by
  have b_L_name_by := F_L_name_by.binds (ps := ["number", "used"]) fun _ _ _ _ _ _ us hl => match us, hl with | [_, _], _ => rfl
  have F_L_names_by := fun_mk (st := s_L_names_by) l_L_names_by c_L_names_by k_L_names_by
  have b_L_names_by := F_L_names_by.binds (ps := ["script", "many"]) fun _ _ _ _ _ _ us hl => match us, hl with | [_, _], _ => rfl
  have F_L_kinds_by := fun_mk (st := s_L_kinds_by) l_L_kinds_by c_L_kinds_by k_L_kinds_by
  have b_L_kinds_by := F_L_kinds_by.binds (ps := ["elders", "cells"]) fun _ _ _ _ _ _ us hl => match us, hl with | [_, _], _ => rfl
  have F_L_number_by := fun_mk (st := s_L_number_by) l_L_number_by c_L_number_by k_L_number_by
  have b_L_number_by := F_L_number_by.binds (ps := ["cell"]) fun _ _ _ _ _ _ us hl => match us, hl with | [_], _ => rfl
  have F_L_deed_by := fun_mk (st := s_L_deed_by) l_L_deed_by c_L_deed_by k_L_deed_by
  have b_L_deed_by := F_L_deed_by.binds (ps := ["item", "boxes", "names"]) fun _ _ _ _ _ _ us hl => match us, hl with | [_, _, _], _ => rfl
  have F_L_way_by := fun_mk (st := s_L_way_by) l_L_way_by c_L_way_by k_L_way_by
  have b_L_way_by := F_L_way_by.binds (ps := ["item", "source", "many", "names"]) fun _ _ _ _ _ _ us hl => match us, hl with | [_, _, _, _], _ => rfl
  have F_L_ask_by := fun_mk (st := s_L_ask_by) l_L_ask_by c_L_ask_by k_L_ask_by
  have b_L_ask_by := F_L_ask_by.binds (ps := ["item", "boxes", "many"]) fun _ _ _ _ _ _ us hl => match us, hl with | [_, _, _], _ => rfl
  have F_L_owns_by := fun_mk (st := s_L_owns_by) l_L_owns_by c_L_owns_by k_L_owns_by
  have b_L_owns_by := F_L_owns_by.binds (ps := ["items", "boxes", "many", "names"]) fun _ _ _ _ _ _ us hl => match us, hl with | [_, _, _, _], _ => rfl
  have F_L_parts_by := fun_mk (st := s_L_parts_by) l_L_parts_by c_L_parts_by k_L_parts_by
  have b_L_parts_by := F_L_parts_by.binds (ps := ["script"]) fun _ _ _ _ _ _ us hl => match us, hl with | [_], _ => rfl
  have F_Tree_init := fun_mk (st := s_Tree_init) l_Tree_init c_Tree_init k_Tree_init
  have b_Tree_init := F_Tree_init.binds (ps := ["self", "kinds", "elders", "starts"]) fun _ _ _ _ _ _ us hl => match us, hl with | [_, _, _, _], _ => rfl
  have F_Chart_init := fun_mk (st := s_Chart_init) l_Chart_init c_Chart_init k_Chart_init
  have b_Chart_init := F_Chart_init.binds (ps := ["self", "boxes", "names", "tree", "ins", "outs", "ways"]) fun _ _ _ _ _ _ us hl => match us, hl with | [_, _, _, _, _, _, _], _ => rfl
  have F_L_chart_by := fun_mk (st := s_L_chart_by) l_L_chart_by c_L_chart_by k_L_chart_by
  have b_L_chart_by := F_L_chart_by.binds (ps := ["parts"]) fun _ _ _ _ _ _ us hl => match us, hl with | [_], _ => rfl
  have F_term_text := fun_mk (st := s_term_text) l_term_text c_term_text k_term_text
  have b_term_text := F_term_text.binds (ps := ["chart", "term"]) fun _ _ _ _ _ _ us hl => match us, hl with | [_, _], _ => rfl
  have F_deed_text := fun_mk (st := s_deed_text) l_deed_text c_deed_text k_deed_text
  have b_deed_text := F_deed_text.binds (ps := ["chart", "deed"]) fun _ _ _ _ _ _ us hl => match us, hl with | [_, _], _ => rfl
  have F_ask_text := fun_mk (st := s_ask_text) l_ask_text c_ask_text k_ask_text
  have b_ask_text := F_ask_text.binds (ps := ["chart", "ask"]) fun _ _ _ _ _ _ us hl => match us, hl with | [_, _], _ => rfl
  have F_way_text := fun_mk (st := s_way_text) l_way_text c_way_text k_way_text
  have b_way_text := F_way_text.binds (ps := ["chart", "way"]) fun _ _ _ _ _ _ us hl => match us, hl with | [_, _], _ => rfl
  have F_own_rows := fun_mk (st := s_own_rows) l_own_rows c_own_rows k_own_rows
  have b_own_rows := F_own_rows.binds (ps := ["chart", "mood"]) fun _ _ _ _ _ _ us hl => match us, hl with | [_, _], _ => rfl
  have F_above := fun_mk (st := s_above) l_above c_above k_above
  have b_above := F_above.binds (ps := ["tree", "mood"]) fun _ _ _ _ _ _ us hl => match us, hl with | [_, _], _ => rfl
  have F_depth := fun_mk (st := s_depth) l_depth c_depth k_depth
  have b_depth := F_depth.binds (ps := ["tree", "mood"]) fun _ _ _ _ _ _ us hl => match us, hl with | [_, _], _ => rfl
  have F_mood_text := fun_mk (st := s_mood_text) l_mood_text c_mood_text k_mood_text
  have b_mood_text := F_mood_text.binds (ps := ["chart", "mood"]) fun _ _ _ _ _ _ us hl => match us, hl with | [_, _], _ => rfl
  have F_shown := fun_mk (st := s_shown) l_shown c_shown k_shown
  have b_shown := F_shown.binds (ps := ["chart"]) fun _ _ _ _ _ _ us hl => match us, hl with | [_], _ => rfl
  have F_L_term_text := fun_mk (st := s_L_term_text) l_L_term_text c_L_term_text k_L_term_text
  have b_L_term_text := F_L_term_text.binds (ps := ["boxes", "term"]) fun _ _ _ _ _ _ us hl => match us, hl with | [_, _], _ => rfl
  have F_L_deed_text := fun_mk (st := s_L_deed_text) l_L_deed_text c_L_deed_text k_L_deed_text
  have b_L_deed_text := F_L_deed_text.binds (ps := ["boxes", "deed"]) fun _ _ _ _ _ _ us hl => match us, hl with | [_, _], _ => rfl
  have F_L_ask_text := fun_mk (st := s_L_ask_text) l_L_ask_text c_L_ask_text k_L_ask_text
  have b_L_ask_text := F_L_ask_text.binds (ps := ["boxes", "names", "ask"]) fun _ _ _ _ _ _ us hl => match us, hl with | [_, _, _], _ => rfl
  have F_L_way_text := fun_mk (st := s_L_way_text) l_L_way_text c_L_way_text k_L_way_text
  have b_L_way_text := F_L_way_text.binds (ps := ["boxes", "names", "way"]) fun _ _ _ _ _ _ us hl => match us, hl with | [_, _, _], _ => rfl
  have F_L_rows_2 := fun_mk (st := s_L_rows_2) l_L_rows_2 c_L_rows_2 k_L_rows_2
  have b_L_rows_2 := F_L_rows_2.binds (ps := ["parts", "boxes"]) fun _ _ _ _ _ _ us hl => match us, hl with | [_, _], _ => rfl
  have F_L_alike := fun_mk (st := s_L_alike) l_L_alike c_L_alike k_L_alike
  have b_L_alike := F_L_alike.binds (ps := ["found", "due"]) fun _ _ _ _ _ _ us hl => match us, hl with | [_, _], _ => rfl
  have F_L_same_4 := fun_mk (st := s_L_same_4) l_L_same_4 c_L_same_4 k_L_same_4
  have b_L_same_4 := F_L_same_4.binds (ps := ["chart", "parts"]) fun _ _ _ _ _ _ us hl => match us, hl with | [_, _], _ => rfl
  have F_law := fun_mk (st := s_law_35) l_law_35 c_law_35 k_law_35
  refine ⟨PySem.W.fnOf "law" "law" (defArgs s_law_35) (defBody s_law_35) (defScope s_law_35) .none kV_law_35 dc_law_35 pm_law_35 an_law_35 cd_law_35 ct_law_35, fun s v => .of_eq rfl, fun base _ _ => ?_⟩
  have K_L_chain := kn_L_chain (base := base) (P := l.prog) (w := w) (cs := ⟨[⟨"Tree", C_Tree, fieldsOf "Tree"⟩, ⟨"Chart", C_Chart, fieldsOf "Chart"⟩], ([] : List ((Addr × Addr) × Str)).map fun p => (p.1.2, p.2)⟩) hC hcf fr F_L_chain (PySem.W.mg_of X G a_L_chain) b_L_chain (s := sp_L_chain) len_L_chain d_L_chain
  have K_L_elders_by_2 := kn_L_elders_by_2 (base := base) (P := l.prog) (w := w) (cs := ⟨[⟨"Tree", C_Tree, fieldsOf "Tree"⟩, ⟨"Chart", C_Chart, fieldsOf "Chart"⟩], ([] : List ((Addr × Addr) × Str)).map fun p => (p.1.2, p.2)⟩) hC hcf fr K_L_chain F_L_elders_by_2 (PySem.W.mg_of X G a_L_elders_by_2) b_L_elders_by_2 (s := sp_L_elders_by_2) len_L_elders_by_2 d_L_elders_by_2
  have K_L_cell_at := kn_L_cell_at (base := base) (P := l.prog) (w := w) (cs := ⟨[⟨"Tree", C_Tree, fieldsOf "Tree"⟩, ⟨"Chart", C_Chart, fieldsOf "Chart"⟩], ([] : List ((Addr × Addr) × Str)).map fun p => (p.1.2, p.2)⟩) hC hcf fr F_L_cell_at (PySem.W.mg_of X G a_L_cell_at) b_L_cell_at (s := sp_L_cell_at) len_L_cell_at d_L_cell_at
  have K_L_name_by := kn_L_name_by (base := base) (P := l.prog) (w := w) (cs := ⟨[⟨"Tree", C_Tree, fieldsOf "Tree"⟩, ⟨"Chart", C_Chart, fieldsOf "Chart"⟩], ([] : List ((Addr × Addr) × Str)).map fun p => (p.1.2, p.2)⟩) hC hcf fr F_L_name_by (PySem.W.mg_of X G a_L_name_by) b_L_name_by (s := sp_L_name_by) len_L_name_by d_L_name_by
  have K_L_names_by := kn_L_names_by (base := base) (P := l.prog) (w := w) (cs := ⟨[⟨"Tree", C_Tree, fieldsOf "Tree"⟩, ⟨"Chart", C_Chart, fieldsOf "Chart"⟩], ([] : List ((Addr × Addr) × Str)).map fun p => (p.1.2, p.2)⟩) hC hcf fr K_L_cell_at K_L_name_by F_L_names_by (PySem.W.mg_of X G a_L_names_by) b_L_names_by (s := sp_L_names_by) len_L_names_by d_L_names_by
  have K_L_kinds_by := kn_L_kinds_by (base := base) (P := l.prog) (w := w) (cs := ⟨[⟨"Tree", C_Tree, fieldsOf "Tree"⟩, ⟨"Chart", C_Chart, fieldsOf "Chart"⟩], ([] : List ((Addr × Addr) × Str)).map fun p => (p.1.2, p.2)⟩) hC hcf fr F_L_kinds_by (PySem.W.mg_of X G a_L_kinds_by) b_L_kinds_by (s := sp_L_kinds_by) len_L_kinds_by d_L_kinds_by
  have K_L_number_by := kn_L_number_by (base := base) (P := l.prog) (w := w) (cs := ⟨[⟨"Tree", C_Tree, fieldsOf "Tree"⟩, ⟨"Chart", C_Chart, fieldsOf "Chart"⟩], ([] : List ((Addr × Addr) × Str)).map fun p => (p.1.2, p.2)⟩) hC hcf fr F_L_number_by (PySem.W.mg_of X G a_L_number_by) b_L_number_by (s := sp_L_number_by) len_L_number_by d_L_number_by
  have K_L_deed_by := kn_L_deed_by (base := base) (P := l.prog) (w := w) (cs := ⟨[⟨"Tree", C_Tree, fieldsOf "Tree"⟩, ⟨"Chart", C_Chart, fieldsOf "Chart"⟩], ([] : List ((Addr × Addr) × Str)).map fun p => (p.1.2, p.2)⟩) hC hcf fr K_L_number_by F_L_deed_by (PySem.W.mg_of X G a_L_deed_by) b_L_deed_by (s := sp_L_deed_by) len_L_deed_by d_L_deed_by
  have K_L_way_by := kn_L_way_by (base := base) (P := l.prog) (w := w) (cs := ⟨[⟨"Tree", C_Tree, fieldsOf "Tree"⟩, ⟨"Chart", C_Chart, fieldsOf "Chart"⟩], ([] : List ((Addr × Addr) × Str)).map fun p => (p.1.2, p.2)⟩) hC hcf fr F_L_way_by (PySem.W.mg_of X G a_L_way_by) b_L_way_by (s := sp_L_way_by) len_L_way_by d_L_way_by
  have K_L_ask_by := kn_L_ask_by (base := base) (P := l.prog) (w := w) (cs := ⟨[⟨"Tree", C_Tree, fieldsOf "Tree"⟩, ⟨"Chart", C_Chart, fieldsOf "Chart"⟩], ([] : List ((Addr × Addr) × Str)).map fun p => (p.1.2, p.2)⟩) hC hcf fr K_L_number_by F_L_ask_by (PySem.W.mg_of X G a_L_ask_by) b_L_ask_by (s := sp_L_ask_by) len_L_ask_by d_L_ask_by
  have K_L_owns_by := kn_L_owns_by (base := base) (P := l.prog) (w := w) (cs := ⟨[⟨"Tree", C_Tree, fieldsOf "Tree"⟩, ⟨"Chart", C_Chart, fieldsOf "Chart"⟩], ([] : List ((Addr × Addr) × Str)).map fun p => (p.1.2, p.2)⟩) hC hcf fr K_L_deed_by K_L_way_by K_L_ask_by F_L_owns_by (PySem.W.mg_of X G a_L_owns_by) b_L_owns_by (s := sp_L_owns_by) len_L_owns_by d_L_owns_by
  have K_L_parts_by := kn_L_parts_by (base := base) (P := l.prog) (w := w) (cs := ⟨[⟨"Tree", C_Tree, fieldsOf "Tree"⟩, ⟨"Chart", C_Chart, fieldsOf "Chart"⟩], ([] : List ((Addr × Addr) × Str)).map fun p => (p.1.2, p.2)⟩) hC hcf fr K_L_cell_at K_L_elders_by_2 K_L_names_by K_L_number_by K_L_kinds_by K_L_owns_by F_L_parts_by (PySem.W.mg_of X G a_L_parts_by) b_L_parts_by (s := sp_L_parts_by) len_L_parts_by d_L_parts_by
  have K_Tree_init := kn_Tree_init (base := base) (P := l.prog) (w := w) (cs := ⟨[⟨"Tree", C_Tree, fieldsOf "Tree"⟩, ⟨"Chart", C_Chart, fieldsOf "Chart"⟩], ([] : List ((Addr × Addr) × Str)).map fun p => (p.1.2, p.2)⟩) hC hcf fr F_Tree_init ⟨mk_Tree, a_Tree_init, i_Tree_init, kc_Tree⟩ (PySem.W.mg_of X G aC_Tree) b_Tree_init (ci := ⟨"Tree", C_Tree, fieldsOf "Tree"⟩) (show _ ∈ ([⟨"Tree", C_Tree, fieldsOf "Tree"⟩, ⟨"Chart", C_Chart, fieldsOf "Chart"⟩] : List CI) by simp) rfl rfl (s := sp_Tree_init) len_Tree_init d_Tree_init
  have K_Chart_init := kn_Chart_init (base := base) (P := l.prog) (w := w) (cs := ⟨[⟨"Tree", C_Tree, fieldsOf "Tree"⟩, ⟨"Chart", C_Chart, fieldsOf "Chart"⟩], ([] : List ((Addr × Addr) × Str)).map fun p => (p.1.2, p.2)⟩) hC hcf fr K_Tree_init F_Chart_init ⟨mk_Chart, a_Chart_init, i_Chart_init, kc_Chart⟩ (PySem.W.mg_of X G aC_Chart) b_Chart_init (ci := ⟨"Chart", C_Chart, fieldsOf "Chart"⟩) (show _ ∈ ([⟨"Tree", C_Tree, fieldsOf "Tree"⟩, ⟨"Chart", C_Chart, fieldsOf "Chart"⟩] : List CI) by simp) rfl rfl (s := sp_Chart_init) len_Chart_init d_Chart_init
  have K_L_chart_by := kn_L_chart_by (base := base) (P := l.prog) (w := w) (cs := ⟨[⟨"Tree", C_Tree, fieldsOf "Tree"⟩, ⟨"Chart", C_Chart, fieldsOf "Chart"⟩], ([] : List ((Addr × Addr) × Str)).map fun p => (p.1.2, p.2)⟩) hC hcf fr K_Tree_init K_Chart_init F_L_chart_by (PySem.W.mg_of X G a_L_chart_by) b_L_chart_by (s := sp_L_chart_by) len_L_chart_by d_L_chart_by
  have K_term_text := kn_term_text (base := base) (P := l.prog) (w := w) (cs := ⟨[⟨"Tree", C_Tree, fieldsOf "Tree"⟩, ⟨"Chart", C_Chart, fieldsOf "Chart"⟩], ([] : List ((Addr × Addr) × Str)).map fun p => (p.1.2, p.2)⟩) hC hcf fr F_term_text (PySem.W.mg_of X G a_term_text) b_term_text (s := sp_term_text) len_term_text d_term_text
  have K_deed_text := kn_deed_text (base := base) (P := l.prog) (w := w) (cs := ⟨[⟨"Tree", C_Tree, fieldsOf "Tree"⟩, ⟨"Chart", C_Chart, fieldsOf "Chart"⟩], ([] : List ((Addr × Addr) × Str)).map fun p => (p.1.2, p.2)⟩) hC hcf fr K_term_text F_deed_text (PySem.W.mg_of X G a_deed_text) b_deed_text (s := sp_deed_text) len_deed_text d_deed_text
  have K_ask_text := kn_ask_text (base := base) (P := l.prog) (w := w) (cs := ⟨[⟨"Tree", C_Tree, fieldsOf "Tree"⟩, ⟨"Chart", C_Chart, fieldsOf "Chart"⟩], ([] : List ((Addr × Addr) × Str)).map fun p => (p.1.2, p.2)⟩) hC hcf fr K_term_text F_ask_text (PySem.W.mg_of X G a_ask_text) b_ask_text (s := sp_ask_text) len_ask_text d_ask_text
  have K_way_text := kn_way_text (base := base) (P := l.prog) (w := w) (cs := ⟨[⟨"Tree", C_Tree, fieldsOf "Tree"⟩, ⟨"Chart", C_Chart, fieldsOf "Chart"⟩], ([] : List ((Addr × Addr) × Str)).map fun p => (p.1.2, p.2)⟩) hC hcf fr K_ask_text K_deed_text F_way_text (PySem.W.mg_of X G a_way_text) b_way_text (s := sp_way_text) len_way_text d_way_text
  have K_own_rows := kn_own_rows (base := base) (P := l.prog) (w := w) (cs := ⟨[⟨"Tree", C_Tree, fieldsOf "Tree"⟩, ⟨"Chart", C_Chart, fieldsOf "Chart"⟩], ([] : List ((Addr × Addr) × Str)).map fun p => (p.1.2, p.2)⟩) hC hcf fr K_deed_text K_way_text F_own_rows (PySem.W.mg_of X G a_own_rows) b_own_rows (s := sp_own_rows) len_own_rows d_own_rows
  have K_above := kn_above (base := base) (P := l.prog) (w := w) (cs := ⟨[⟨"Tree", C_Tree, fieldsOf "Tree"⟩, ⟨"Chart", C_Chart, fieldsOf "Chart"⟩], ([] : List ((Addr × Addr) × Str)).map fun p => (p.1.2, p.2)⟩) hC hcf fr F_above (PySem.W.mg_of X G a_above) b_above (s := sp_above) len_above d_above
  have K_depth := kn_depth (base := base) (P := l.prog) (w := w) (cs := ⟨[⟨"Tree", C_Tree, fieldsOf "Tree"⟩, ⟨"Chart", C_Chart, fieldsOf "Chart"⟩], ([] : List ((Addr × Addr) × Str)).map fun p => (p.1.2, p.2)⟩) hC hcf fr K_above F_depth (PySem.W.mg_of X G a_depth) b_depth (s := sp_depth) len_depth d_depth
  have K_mood_text := kn_mood_text (base := base) (P := l.prog) (w := w) (cs := ⟨[⟨"Tree", C_Tree, fieldsOf "Tree"⟩, ⟨"Chart", C_Chart, fieldsOf "Chart"⟩], ([] : List ((Addr × Addr) × Str)).map fun p => (p.1.2, p.2)⟩) hC hcf fr F_mood_text (PySem.W.mg_of X G a_mood_text) b_mood_text (s := sp_mood_text) len_mood_text d_mood_text
  have K_shown := kn_shown (base := base) (P := l.prog) (w := w) (cs := ⟨[⟨"Tree", C_Tree, fieldsOf "Tree"⟩, ⟨"Chart", C_Chart, fieldsOf "Chart"⟩], ([] : List ((Addr × Addr) × Str)).map fun p => (p.1.2, p.2)⟩) hC hcf fr K_depth K_mood_text K_own_rows F_shown (PySem.W.mg_of X G a_shown) b_shown (s := sp_shown) len_shown d_shown
  have K_L_term_text := kn_L_term_text (base := base) (P := l.prog) (w := w) (cs := ⟨[⟨"Tree", C_Tree, fieldsOf "Tree"⟩, ⟨"Chart", C_Chart, fieldsOf "Chart"⟩], ([] : List ((Addr × Addr) × Str)).map fun p => (p.1.2, p.2)⟩) hC hcf fr F_L_term_text (PySem.W.mg_of X G a_L_term_text) b_L_term_text (s := sp_L_term_text) len_L_term_text d_L_term_text
  have K_L_deed_text := kn_L_deed_text (base := base) (P := l.prog) (w := w) (cs := ⟨[⟨"Tree", C_Tree, fieldsOf "Tree"⟩, ⟨"Chart", C_Chart, fieldsOf "Chart"⟩], ([] : List ((Addr × Addr) × Str)).map fun p => (p.1.2, p.2)⟩) hC hcf fr K_L_term_text F_L_deed_text (PySem.W.mg_of X G a_L_deed_text) b_L_deed_text (s := sp_L_deed_text) len_L_deed_text d_L_deed_text
  have K_L_ask_text := kn_L_ask_text (base := base) (P := l.prog) (w := w) (cs := ⟨[⟨"Tree", C_Tree, fieldsOf "Tree"⟩, ⟨"Chart", C_Chart, fieldsOf "Chart"⟩], ([] : List ((Addr × Addr) × Str)).map fun p => (p.1.2, p.2)⟩) hC hcf fr K_L_term_text F_L_ask_text (PySem.W.mg_of X G a_L_ask_text) b_L_ask_text (s := sp_L_ask_text) len_L_ask_text d_L_ask_text
  have K_L_way_text := kn_L_way_text (base := base) (P := l.prog) (w := w) (cs := ⟨[⟨"Tree", C_Tree, fieldsOf "Tree"⟩, ⟨"Chart", C_Chart, fieldsOf "Chart"⟩], ([] : List ((Addr × Addr) × Str)).map fun p => (p.1.2, p.2)⟩) hC hcf fr K_L_ask_text K_L_deed_text F_L_way_text (PySem.W.mg_of X G a_L_way_text) b_L_way_text (s := sp_L_way_text) len_L_way_text d_L_way_text
  have K_L_rows_2 := kn_L_rows_2 (base := base) (P := l.prog) (w := w) (cs := ⟨[⟨"Tree", C_Tree, fieldsOf "Tree"⟩, ⟨"Chart", C_Chart, fieldsOf "Chart"⟩], ([] : List ((Addr × Addr) × Str)).map fun p => (p.1.2, p.2)⟩) hC hcf fr K_L_chain K_L_deed_text K_L_way_text F_L_rows_2 (PySem.W.mg_of X G a_L_rows_2) b_L_rows_2 (s := sp_L_rows_2) len_L_rows_2 d_L_rows_2
  have K_L_alike := kn_L_alike (base := base) (P := l.prog) (w := w) (cs := ⟨[⟨"Tree", C_Tree, fieldsOf "Tree"⟩, ⟨"Chart", C_Chart, fieldsOf "Chart"⟩], ([] : List ((Addr × Addr) × Str)).map fun p => (p.1.2, p.2)⟩) hC hcf fr F_L_alike (PySem.W.mg_of X G a_L_alike) b_L_alike (s := spr_L_alike) len_L_alike zero_L_alike d_L_alike 11
  have K_L_same_4 := kn_L_same_4 (base := base) (P := l.prog) (w := w) (cs := ⟨[⟨"Tree", C_Tree, fieldsOf "Tree"⟩, ⟨"Chart", C_Chart, fieldsOf "Chart"⟩], ([] : List ((Addr × Addr) × Str)).map fun p => (p.1.2, p.2)⟩) hC hcf fr K_L_alike F_L_same_4 (PySem.W.mg_of X G a_L_same_4) b_L_same_4 (s := sp_L_same_4) len_L_same_4 d_L_same_4
  exact FnOk.imp (fn_pure F_law sc_law_35 (s := sp_law_35) len_law_35 (fun _ _ _ _ _ _ hr => vs_law_35 (cs := ⟨[⟨"Tree", C_Tree, fieldsOf "Tree"⟩, ⟨"Chart", C_Chart, fieldsOf "Chart"⟩], ([] : List ((Addr × Addr) × Str)).map fun p => (p.1.2, p.2)⟩) hC hcf fr K_L_parts_by K_L_chart_by K_shown K_L_rows_2 K_L_same_4 hr) d_law_35) fun _ _ _ _ h => top_imp (cs := ⟨[⟨"Tree", C_Tree, fieldsOf "Tree"⟩, ⟨"Chart", C_Chart, fieldsOf "Chart"⟩], ([] : List ((Addr × Addr) × Str)).map fun p => (p.1.2, p.2)⟩) h
theorem walk {l : PySem.W.OpenLaw} {q : Program} {loose : List Str} {XP : (Str → Option Value) → Heap → Prop} {YP : World → Heap → Prop} {d : DefRec} {K : Params → PySem.W.Frag} (hn : l.most = some 63) (hdf : d.params.defaults = [])
    (hY : ∀ (w : World) (h : Heap), YP w h → (K w.params).In h)
    (F : ∀ (w : World) (mg : Str → Option Value) (fa : Addr) (h : Heap), (K w.params).In h → h.Ns mainGlobals mg → mg d.name = some (.ref fa) →
      ∃ fd : FuncData, (∀ (s : Shared) (u : Value), BindsTo s fd ⟨[u], []⟩ [("script", u)]) ∧ ∀ base : Heap, (K w.params).In base → base.Ns mainGlobals mg → FnOk l.prog w (K w.params) mg base CX0 14 fa fd ["script"] (spTop (K w.params) [] 63)) :
    PySem.W.WalkO q loose XP YP l.row.toRowW d [] (fun f vs => PySem.call f vs) :=
  L2.walk_of (n := 63) (k := 14) (x := "script") (CX := fun _ => CX0) (sp := fun w => spTop (K w.params) [] 63) hn (by decide) hdf ⟨rfl, by decide, by decide⟩ hY F (fun _ _ a ns hl _ hS => ⟨fun p hp => (by cases hp), a, ns, rfl, hS, hl, fun _ => rfl⟩) fun _ _ _ _ _ z => z
end VL
open PySem PySem.W PyProof.Rows in
set_option maxRecDepth 100000 in
set_option maxHeartbeats 0 in
theorem PySem.Challenge.cw_moodtree_k20_whole_chart_written_holds : PySem.Challenge.rw_moodtree_k20_whole_chart_written.Holds := by
  w_on; o_law; k_head; (case hw => w_witness2)
  k_fill
  refine VL.walk (l := PySem.Challenge.rw_moodtree_k20_whole_chart_written) rfl rfl (fun w h Y => PySem.W.kIn_of Y) ?F
  case F =>
    intro w mg fa h KX G hmg
    refine' VL.all_mk KX G hmg ?aC_Tree ?pg_Tree ?hd_Tree ?po_Tree ?sa_Tree ?mk_Tree ?kc_Tree ?n_Tree_kinds ?n_Tree_elders ?n_Tree_starts ?aC_Chart ?pg_Chart ?hd_Chart ?po_Chart ?sa_Chart ?mk_Chart ?kc_Chart ?n_Chart_boxes ?n_Chart_names ?n_Chart_tree ?n_Chart_ins ?n_Chart_outs ?n_Chart_ways ?a_L_chain ?l_L_chain ?c_L_chain ?k_L_chain ?a_L_elders_by_2 ?l_L_elders_by_2 ?c_L_elders_by_2 ?k_L_elders_by_2 ?a_L_cell_at ?l_L_cell_at ?c_L_cell_at ?k_L_cell_at ?a_L_name_by ?l_L_name_by ?c_L_name_by ?k_L_name_by ?a_L_names_by ?l_L_names_by ?c_L_names_by ?k_L_names_by ?a_L_kinds_by ?l_L_kinds_by ?c_L_kinds_by ?k_L_kinds_by ?a_L_number_by ?l_L_number_by ?c_L_number_by ?k_L_number_by ?a_L_deed_by ?l_L_deed_by ?c_L_deed_by ?k_L_deed_by ?a_L_way_by ?l_L_way_by ?c_L_way_by ?k_L_way_by ?a_L_ask_by ?l_L_ask_by ?c_L_ask_by ?k_L_ask_by ?a_L_owns_by ?l_L_owns_by ?c_L_owns_by ?k_L_owns_by ?a_L_parts_by ?l_L_parts_by ?c_L_parts_by ?k_L_parts_by ?a_Tree_init ?i_Tree_init ?l_Tree_init ?c_Tree_init ?k_Tree_init ?a_Chart_init ?i_Chart_init ?l_Chart_init ?c_Chart_init ?k_Chart_init ?a_L_chart_by ?l_L_chart_by ?c_L_chart_by ?k_L_chart_by ?a_term_text ?l_term_text ?c_term_text ?k_term_text ?a_deed_text ?l_deed_text ?c_deed_text ?k_deed_text ?a_ask_text ?l_ask_text ?c_ask_text ?k_ask_text ?a_way_text ?l_way_text ?c_way_text ?k_way_text ?a_own_rows ?l_own_rows ?c_own_rows ?k_own_rows ?a_above ?l_above ?c_above ?k_above ?a_depth ?l_depth ?c_depth ?k_depth ?a_mood_text ?l_mood_text ?c_mood_text ?k_mood_text ?a_shown ?l_shown ?c_shown ?k_shown ?a_L_term_text ?l_L_term_text ?c_L_term_text ?k_L_term_text ?a_L_deed_text ?l_L_deed_text ?c_L_deed_text ?k_L_deed_text ?a_L_ask_text ?l_L_ask_text ?c_L_ask_text ?k_L_ask_text ?a_L_way_text ?l_L_way_text ?c_L_way_text ?k_L_way_text ?a_L_rows_2 ?l_L_rows_2 ?c_L_rows_2 ?k_L_rows_2 ?a_L_alike ?l_L_alike ?c_L_alike ?k_L_alike ?a_L_same_4 ?l_L_same_4 ?c_L_same_4 ?k_L_same_4 ?a_law_35 ?l_law_35 ?c_law_35 ?k_law_35 ?z_abs ?z_bool ?z_int ?z_isinstance ?z_len ?z_list ?z_min ?z_range ?z_str ?z_tuple
    (case aC_Tree => k_is)
    (case pg_Tree => k_is)
    (case hd_Tree => k_is)
    (case po_Tree => k_is)
    (case sa_Tree => k_is)
    (case mk_Tree => k_is)
    (case kc_Tree => k_is)
    (case n_Tree_kinds => k_is)
    (case n_Tree_elders => k_is)
    (case n_Tree_starts => k_is)
    (case aC_Chart => k_is)
    (case pg_Chart => k_is)
    (case hd_Chart => k_is)
    (case po_Chart => k_is)
    (case sa_Chart => k_is)
    (case mk_Chart => k_is)
    (case kc_Chart => k_is)
    (case n_Chart_boxes => k_is)
    (case n_Chart_names => k_is)
    (case n_Chart_tree => k_is)
    (case n_Chart_ins => k_is)
    (case n_Chart_outs => k_is)
    (case n_Chart_ways => k_is)
    (case a_L_chain => k_is)
    (case l_L_chain => k_is)
    (case c_L_chain => k_is)
    (case k_L_chain => k_is)
    (case a_L_elders_by_2 => k_is)
    (case l_L_elders_by_2 => k_is)
    (case c_L_elders_by_2 => k_is)
    (case k_L_elders_by_2 => k_is)
    (case a_L_cell_at => k_is)
    (case l_L_cell_at => k_is)
    (case c_L_cell_at => k_is)
    (case k_L_cell_at => k_is)
    (case a_L_name_by => k_is)
    (case l_L_name_by => k_is)
    (case c_L_name_by => k_is)
    (case k_L_name_by => k_is)
    (case a_L_names_by => k_is)
    (case l_L_names_by => k_is)
    (case c_L_names_by => k_is)
    (case k_L_names_by => k_is)
    (case a_L_kinds_by => k_is)
    (case l_L_kinds_by => k_is)
    (case c_L_kinds_by => k_is)
    (case k_L_kinds_by => k_is)
    (case a_L_number_by => k_is)
    (case l_L_number_by => k_is)
    (case c_L_number_by => k_is)
    (case k_L_number_by => k_is)
    (case a_L_deed_by => k_is)
    (case l_L_deed_by => k_is)
    (case c_L_deed_by => k_is)
    (case k_L_deed_by => k_is)
    (case a_L_way_by => k_is)
    (case l_L_way_by => k_is)
    (case c_L_way_by => k_is)
    (case k_L_way_by => k_is)
    (case a_L_ask_by => k_is)
    (case l_L_ask_by => k_is)
    (case c_L_ask_by => k_is)
    (case k_L_ask_by => k_is)
    (case a_L_owns_by => k_is)
    (case l_L_owns_by => k_is)
    (case c_L_owns_by => k_is)
    (case k_L_owns_by => k_is)
    (case a_L_parts_by => k_is)
    (case l_L_parts_by => k_is)
    (case c_L_parts_by => k_is)
    (case k_L_parts_by => k_is)
    (case a_Tree_init => k_is)
    (case i_Tree_init => k_is)
    (case l_Tree_init => k_is)
    (case c_Tree_init => k_is)
    (case k_Tree_init => k_is)
    (case a_Chart_init => k_is)
    (case i_Chart_init => k_is)
    (case l_Chart_init => k_is)
    (case c_Chart_init => k_is)
    (case k_Chart_init => k_is)
    (case a_L_chart_by => k_is)
    (case l_L_chart_by => k_is)
    (case c_L_chart_by => k_is)
    (case k_L_chart_by => k_is)
    (case a_term_text => k_is)
    (case l_term_text => k_is)
    (case c_term_text => k_is)
    (case k_term_text => k_is)
    (case a_deed_text => k_is)
    (case l_deed_text => k_is)
    (case c_deed_text => k_is)
    (case k_deed_text => k_is)
    (case a_ask_text => k_is)
    (case l_ask_text => k_is)
    (case c_ask_text => k_is)
    (case k_ask_text => k_is)
    (case a_way_text => k_is)
    (case l_way_text => k_is)
    (case c_way_text => k_is)
    (case k_way_text => k_is)
    (case a_own_rows => k_is)
    (case l_own_rows => k_is)
    (case c_own_rows => k_is)
    (case k_own_rows => k_is)
    (case a_above => k_is)
    (case l_above => k_is)
    (case c_above => k_is)
    (case k_above => k_is)
    (case a_depth => k_is)
    (case l_depth => k_is)
    (case c_depth => k_is)
    (case k_depth => k_is)
    (case a_mood_text => k_is)
    (case l_mood_text => k_is)
    (case c_mood_text => k_is)
    (case k_mood_text => k_is)
    (case a_shown => k_is)
    (case l_shown => k_is)
    (case c_shown => k_is)
    (case k_shown => k_is)
    (case a_L_term_text => k_is)
    (case l_L_term_text => k_is)
    (case c_L_term_text => k_is)
    (case k_L_term_text => k_is)
    (case a_L_deed_text => k_is)
    (case l_L_deed_text => k_is)
    (case c_L_deed_text => k_is)
    (case k_L_deed_text => k_is)
    (case a_L_ask_text => k_is)
    (case l_L_ask_text => k_is)
    (case c_L_ask_text => k_is)
    (case k_L_ask_text => k_is)
    (case a_L_way_text => k_is)
    (case l_L_way_text => k_is)
    (case c_L_way_text => k_is)
    (case k_L_way_text => k_is)
    (case a_L_rows_2 => k_is)
    (case l_L_rows_2 => k_is)
    (case c_L_rows_2 => k_is)
    (case k_L_rows_2 => k_is)
    (case a_L_alike => k_is)
    (case l_L_alike => k_is)
    (case c_L_alike => k_is)
    (case k_L_alike => k_is)
    (case a_L_same_4 => k_is)
    (case l_L_same_4 => k_is)
    (case c_L_same_4 => k_is)
    (case k_L_same_4 => k_is)
    (case a_law_35 => k_is)
    (case l_law_35 => k_is)
    (case c_law_35 => k_is)
    (case k_law_35 => k_is)
    (case z_abs => k_is)
    (case z_bool => k_is)
    (case z_int => k_is)
    (case z_isinstance => k_is)
    (case z_len => k_is)
    (case z_list => k_is)
    (case z_min => k_is)
    (case z_range => k_is)
    (case z_str => k_is)
    (case z_tuple => k_is)
#print axioms PySem.Challenge.cw_moodtree_k20_whole_chart_written_holds
