import PyProof.Rows.All
import Wide.All
import OpenK.AllK
import Wide.FinOn
import HandS.ForMost
import HandS.Nested
import KE.KDictKeyed
import HandS.Lambda
import HandS.Wide
import HandS.IsInst
import HandS.SortInts
import HandS.Walk
import HandS.Rev
import HandS.Steps
import HandS.List
import PyProof.AutoSeq1
import PyProof.ListOps
import HandS.SetFor
import HandS.SortKw
import HandS.Conv
import HandS.Text
import KE.SortKeyHeap
import KE.KNestM
import KE.KLam
import HandS.EndTab
import HandS.Zip
import HandS.RevTup
import HandS.TupAny
import HandS.RaiseMore
import HandS.StrMore
import PyProof.StrOps2
import HandS.SetKeys
import HandS.Exc
import HandS.WordsExc
import HandS.SuiteRaise
import HandS.ClsMeth
import HandS.TryOnly
import HandS.ExcIs
import HandS.Defaults
import HandS.CallSlots
import HandS.Deep
import KE.KEqDict
import PyProof.DictFindH
import KE.KDictDisplayH
import KE.KDictCopyH
import HandS.TryMany
import PySem.Challenge.RW_moodtree_k17_the_first_refusal_is_told
set_option Elab.async false
set_option linter.all false
set_option maxRecDepth 100000
set_option maxHeartbeats 4000000
set_option maxHeartbeats 1000000
/-! VL: values as plain data trees over L2's judgements. -/
namespace VL
open PySem L2

/-- a value as data; the mark m of a mutable object: true: it can be reached from here alone -/
inductive D where
  | non | bl (b : Bool) | int (i : Int) | str (x : Str)
  | tup (xs : List D) | lst (m : Bool) (xs : List D)
  | dic (m : Bool) (ks : List Key) (vs : List D)
  | dit (m : Bool) (ks : List NestedKey) (vs : List D)
  | obj (m : Bool) (c : Str) (ns : List Str) (vs : List D)
  | opq | at (a : Addr) (o : Option Obj)
mutual
def frz : D → D
  | .non => .non
  | .bl b => .bl b
  | .int i => .int i
  | .str x => .str x
  | .tup xs => .tup (frzL xs)
  | .lst _ xs => .lst false (frzL xs)
  | .dic _ ks vs => .dic false ks (frzL vs)
  | .dit _ ks vs => .dit false ks (frzL vs)
  | .obj _ c ns vs => .obj false c ns (frzL vs)
  | .opq => .opq
  | .at a o => .at a o
def frzL : List D → List D
  | [] => []
  | x :: xs => frz x :: frzL xs
end
mutual
/-- no object in it is marked -/
def noOwn : D → Bool
  | .non => true
  | .bl _ => true
  | .int _ => true
  | .str _ => true
  | .tup xs => noOwnL xs
  | .lst m xs => !m && noOwnL xs
  | .dic m _ vs => !m && noOwnL vs
  | .dit m _ vs => !m && noOwnL vs
  | .obj m _ _ vs => !m && noOwnL vs
  | .opq => true
  | .at _ _ => true
def noOwnL : List D → Bool
  | [] => true
  | x :: xs => noOwn x && noOwnL xs
end
mutual
/-- every mutable object in it is marked -/
def alo : D → Bool
  | .non => true
  | .bl _ => true
  | .int _ => true
  | .str _ => true
  | .tup xs => aloL xs
  | .lst m xs => m && aloL xs
  | .dic m _ vs => m && aloL vs
  | .dit m _ vs => m && aloL vs
  | .obj m _ _ vs => m && aloL vs
  | .opq => true
  | .at _ o => o.isNone
def aloL : List D → Bool
  | [] => true
  | x :: xs => alo x && aloL xs
end
theorem frzL_map : ∀ xs : List D, frzL xs = xs.map frz
  | [] => rfl
  | x :: xs => by rw [frzL, frzL_map xs]; rfl
theorem noOwnL_all : ∀ xs : List D, noOwnL xs = xs.all noOwn
  | [] => rfl
  | x :: xs => by rw [noOwnL, noOwnL_all xs]; rfl
theorem aloL_all : ∀ xs : List D, aloL xs = xs.all alo
  | [] => rfl
  | x :: xs => by rw [aloL, aloL_all xs]; rfl
mutual
theorem frz_noOwn : ∀ d : D, noOwn (frz d) = true
  | .non => rfl
  | .bl _ => rfl
  | .int _ => rfl
  | .str _ => rfl
  | .tup xs => by rw [frz, noOwn]; exact frzL_noOwn xs
  | .lst _ xs => by rw [frz, noOwn, frzL_noOwn xs]; rfl
  | .dic _ _ xs => by rw [frz, noOwn, frzL_noOwn xs]; rfl
  | .dit _ _ xs => by rw [frz, noOwn, frzL_noOwn xs]; rfl
  | .obj _ _ _ xs => by rw [frz, noOwn, frzL_noOwn xs]; rfl
  | .opq => rfl
  | .at _ _ => rfl
theorem frzL_noOwn : ∀ d : List D, noOwnL (frzL d) = true
  | [] => rfl
  | x :: xs => by rw [frzL, noOwnL, frz_noOwn x, frzL_noOwn xs]; rfl
end
mutual
theorem frz_id : ∀ d : D, noOwn d = true → frz d = d
  | .non, _ => rfl
  | .bl _, _ => rfl
  | .int _, _ => rfl
  | .str _, _ => rfl
  | .tup xs, h => by rw [frz, frzL_id xs h]
  | .lst m xs, h => by
    rw [noOwn] at h; simp only [Bool.and_eq_true, Bool.not_eq_true'] at h
    rw [frz, frzL_id xs h.2, h.1]
  | .dic m _ xs, h => by
    rw [noOwn] at h; simp only [Bool.and_eq_true, Bool.not_eq_true'] at h
    rw [frz, frzL_id xs h.2, h.1]
  | .dit m _ xs, h => by
    rw [noOwn] at h; simp only [Bool.and_eq_true, Bool.not_eq_true'] at h
    rw [frz, frzL_id xs h.2, h.1]
  | .obj m _ _ xs, h => by
    rw [noOwn] at h; simp only [Bool.and_eq_true, Bool.not_eq_true'] at h
    rw [frz, frzL_id xs h.2, h.1]
  | .opq, _ => rfl
  | .at _ _, _ => rfl
theorem frzL_id : ∀ d : List D, noOwnL d = true → frzL d = d
  | [], _ => rfl
  | x :: xs, h => by
    rw [noOwnL] at h; simp only [Bool.and_eq_true] at h
    rw [frzL, frz_id x h.1, frzL_id xs h.2]
end

/-- a class of the text: its address and the names of its attributes -/
structure CI where
  name : Str
  addr : Addr
  fields : List Str
/-- the classes; the tables of code objects of defs that make lambdas, with the lambdas' name -/
structure Cs where
  cl : List CI
  tb : List (Addr × Str)
  xc : List (Str × Addr) := []
  wd : Option World := none
instance : Membership CI Cs := ⟨fun cs ci => ci ∈ cs.cl⟩
/-- what the layer writes -/
def Mu : HO → Prop
  | .lst _ => True
  | .dK _ => True
  | .dT _ => True
  | .ins _ _ _ => True
  | .ext φ => ∀ c q, HO.ext φ ≠ LamX.CodeO c q
  | _ => False
theorem Mu.mut {o : HO} (h : Mu o) : Mut (some o) := by
  unfold Mu at h
  split at h
  · exact True.intro
  · exact True.intro
  · exact True.intro
  · exact True.intro
  · exact True.intro
  · exact h.elim
/-- no table -/
abbrev NT (o : HO) : Prop := ∀ ps, o ≠ .tbl ps
def CsOk (K : PySem.W.Frag) (cs : Cs) : Prop := ∀ ci ∈ cs, Cls K ci.addr ∧ ∀ f ∈ ci.fields, NoAttr K ci.addr f

/-- a list of the text's own constants -/
def KLs (K : PySem.W.Frag) (a : Addr) (xs : List V) : Prop :=
  ∃ (o : Obj) (its : Array Value) (n : Nat), K.lookup a = some o ∧ o.cls = .type "list" ∧ o.dict = none ∧ o.data = .seq its n ∧ its.size ≤ sizeLine ∧ Vals xs its.toList

/-! ### dicts whose keys are tuples, nested or flat -/
mutual
/-- v is the key k -/
def KeyIs (K : PySem.W.Frag) (H : Hp) : NestedKey → V → Prop
  | .none, v => v = .non
  | .num i, v => v = .int i
  | .text x, v => v = .str x
  | .tup ks, v => ∃ a vs, v = .ref a ∧ SqT K H a vs ∧ KeysIs K H ks vs
def KeysIs (K : PySem.W.Frag) (H : Hp) : List NestedKey → List V → Prop
  | [], vs => vs = []
  | k :: ks, vs => ∃ v vs', vs = v :: vs' ∧ KeyIs K H k v ∧ KeysIs K H ks vs'
end
/-- the object at a is just o -/
def exo (a : Addr) (o : Obj) : HO := .ext fun h => h.get? a = some o
theorem exo_mu {a : Addr} {o : Obj} {es : Array DictEntry} {ep : Nat} (hd : o.data = .dict es ep) : Mu (exo a o) := by
  intro c q e
  have e : (HO.ext fun h => h.get? a = some o) = .ext fun h => ∃ (oc : Obj) (vs : Array Value) (t : Tok), h.get? c = some oc ∧ oc.data = .fields vs ∧ vs[1]? = some (.str q t) := e
  injection e with e
  obtain ⟨oc, od, da, sl⟩ := o
  have hd : da = .dict es ep := hd
  subst hd
  have h := congrFun e ⟨Array.replicate (a + 1) ⟨oc, od, .dict es ep, sl⟩, default⟩
  have l : (⟨Array.replicate (a + 1) ⟨oc, od, .dict es ep, sl⟩, default⟩ : Heap).get? a = some ⟨oc, od, .dict es ep, sl⟩ := by
    unfold Heap.get?
    simp
  rw [h] at l
  obtain ⟨o2, vs, t, h1, h2, _⟩ := l
  unfold Heap.get? at h1
  by_cases hc : c < a + 1
  · simp [hc] at h1
    rw [← h1] at h2
    cases h2
  · simp [hc] at h1
def entN (w : World) (x : NestedKey × Addr × Value) : DictEntry := ⟨x.1.hash w, .ref x.2.1, x.2.2⟩
/-- o is a dict with the keys ks, which stand at kas, and the values vs -/
def DgO (cs : Cs) (a : Addr) (o : Obj) (ks : List NestedKey) (kas : List Addr) (vs : List V) : Prop :=
  (a == sysModules) = false ∧ o.ExactDict ∧ ks.length ≤ sizeLine ∧ ks.Nodup ∧ (∀ k ∈ ks, k.depth ≤ 8) ∧
  ∃ (w : World) (es : Array DictEntry) (ep : Nat) (xs : List (NestedKey × Addr × Value)), cs.wd = some w ∧ o.data = .dict es ep ∧ es.toList = xs.map (entN w) ∧ xs.map (fun x => x.1) = ks ∧ xs.map (fun x => x.2.1) = kas ∧ Vals vs (xs.map fun x => x.2.2)

mutual
/-- v is the datum d in H; Z: what is never written again; F: the marked objects -/
def R (K : PySem.W.Frag) (cs : Cs) (H : Hp) (Z : Addr → Prop) : D → V → List Addr → Prop
  | .non, v, F => v = .non ∧ F = []
  | .bl b, v, F => v = .bl b ∧ F = []
  | .int i, v, F => v = .int i ∧ F = []
  | .str x, v, F => v = .str x ∧ F = []
  | .tup xs, v, F => ∃ a vs, v = .ref a ∧ SqT K H a vs ∧ RL K cs H Z xs vs F
  | .lst true xs, v, F => ∃ a vs F', v = .ref a ∧ H a = some (.lst vs) ∧ RL K cs H Z xs vs F' ∧ F = a :: F'
  | .lst false xs, v, F => ∃ a vs, v = .ref a ∧ ((Rd H a (.lst vs) ∧ Z a) ∨ KLs K a vs) ∧ RL K cs H Z xs vs [] ∧ F = []
  | .dic true ks xs, v, F => ∃ a vs F', v = .ref a ∧ H a = some (.dK (ks.zip vs)) ∧ ks.length = xs.length ∧ RL K cs H Z xs vs F' ∧ F = a :: F'
  | .dic false ks xs, v, F => ∃ a vs, v = .ref a ∧ H a = some (.dK (ks.zip vs)) ∧ Z a ∧ ks.length = xs.length ∧ RL K cs H Z xs vs [] ∧ F = []
  | .dit true ks xs, v, F => ∃ a o kas vs F', v = .ref a ∧ H a = some (exo a o) ∧ (DgO cs a o ks kas vs ∧ KeysIs K H ks (kas.map .ref)) ∧ RL K cs H Z xs vs F' ∧ F = a :: F'
  | .dit false ks xs, v, F => ∃ a o kas vs, v = .ref a ∧ H a = some (exo a o) ∧ Z a ∧ (DgO cs a o ks kas vs ∧ KeysIs K H ks (kas.map .ref)) ∧ RL K cs H Z xs vs [] ∧ F = []
  | .obj true c ns xs, v, F => ∃ a dx ci vs F', v = .ref a ∧ ci ∈ cs ∧ ci.name = c ∧ (∀ n ∈ ns, n ∈ ci.fields) ∧ H a = some (.ins ci.addr dx (ns.zip vs)) ∧ ns.length = xs.length ∧ RL K cs H Z xs vs F' ∧ F = a :: F'
  | .obj false c ns xs, v, F => ∃ a dx ci vs, v = .ref a ∧ ci ∈ cs ∧ ci.name = c ∧ (∀ n ∈ ns, n ∈ ci.fields) ∧ H a = some (.ins ci.addr dx (ns.zip vs)) ∧ Z a ∧ ns.length = xs.length ∧ RL K cs H Z xs vs [] ∧ F = []
  | .opq, _, F => F = []
  | .at a o, v, F => v = .ref a ∧ (∀ o', o = some o' → H a = some (exo a o') ∧ Z a) ∧ F = []
def RL (K : PySem.W.Frag) (cs : Cs) (H : Hp) (Z : Addr → Prop) : List D → List V → List Addr → Prop
  | [], vs, F => vs = [] ∧ F = []
  | x :: xs, vs, F => ∃ v vs' F1 F2, vs = v :: vs' ∧ R K cs H Z x v F1 ∧ RL K cs H Z xs vs' F2 ∧ F = F1 ++ F2
end
section
variable {K : PySem.W.Frag} {cs : Cs} {H H' : Hp} {Z Z' : Addr → Prop}
theorem not_mut_tup {xs : List V} : ¬ Mut (some (.tup xs)) := fun h => h
theorem not_mut_frz {o : Obj} {u : HO} : ¬ Mut (some (.frz o u)) := fun h => h
theorem rd_kp {a : Addr} {u : HO} (h : Rd H a u) (nu : NT u) (k : ∀ o, H a = some o → NT o → H' a = some o) : Rd H' a u := by
  rcases h with h | ⟨o, h⟩
  · exact .inl (k _ h nu)
  · exact .inr ⟨o, k _ h fun _ z => by cases z⟩
theorem sqt_kp {a : Addr} {vs : List V} (h : SqT K H a vs) (k : ∀ a o, H a = some o → NT o → ¬ Mut (some o) → H' a = some o) : SqT K H' a vs := by
  rcases h with (h | ⟨o, h⟩) | h
  · exact .inl (.inl (k _ _ h (fun _ z => by cases z) not_mut_tup))
  · exact .inl (.inr ⟨o, k _ _ h (fun _ z => by cases z) not_mut_frz⟩)
  · exact .inr h
mutual
theorem KeyIs.keep (k : ∀ a o, H a = some o → NT o → ¬ Mut (some o) → H' a = some o) : ∀ (n : NestedKey) (v : V), KeyIs K H n v → KeyIs K H' n v
  | .none, _, h => h
  | .num _, _, h => h
  | .text _, _, h => h
  | .tup ks, v, h => by
    obtain ⟨a, vs, e, t, r⟩ := h
    exact ⟨a, vs, e, sqt_kp t k, KeysIs.keep k ks vs r⟩
theorem KeysIs.keep (k : ∀ a o, H a = some o → NT o → ¬ Mut (some o) → H' a = some o) : ∀ (ns : List NestedKey) (vs : List V), KeysIs K H ns vs → KeysIs K H' ns vs
  | [], _, h => h
  | n :: ns, vs, h => by
    obtain ⟨v, vs', e, h1, h2⟩ := h
    exact ⟨v, vs', e, KeyIs.keep k n v h1, KeysIs.keep k ns vs' h2⟩
end
mutual
theorem R.keep (hz : ∀ a, Z a → Z' a) : ∀ (d : D) (v : V) (F : List Addr), (∀ a o, H a = some o → NT o → (a ∈ F ∨ Z a ∨ ¬ Mut (some o)) → H' a = some o) → R K cs H Z d v F → R K cs H' Z' d v F
  | .non, _, _, _, h => h
  | .bl _, _, _, _, h => h
  | .int _, _, _, _, h => h
  | .str _, _, _, _, h => h
  | .tup xs, v, F, k, h => by
    obtain ⟨a, vs, e, t, r⟩ := h
    exact ⟨a, vs, e, sqt_kp t fun a o e n m => k a o e n (.inr (.inr m)), RL.keep hz xs vs F k r⟩
  | .lst true xs, v, F, k, h => by
    obtain ⟨a, vs, F', e, t, r, rfl⟩ := h
    exact ⟨a, vs, F', e, k a _ t (fun _ z => by cases z) (.inl List.mem_cons_self), RL.keep hz xs vs F' (fun b o e n q => k b o e n (q.imp_left (List.mem_cons_of_mem _))) r, rfl⟩
  | .lst false xs, v, F, k, h => by
    obtain ⟨a, vs, e, t, r, rfl⟩ := h
    refine ⟨a, vs, e, ?_, RL.keep hz xs vs [] k r, rfl⟩
    rcases t with ⟨t, z⟩ | t
    · exact .inl ⟨rd_kp t (fun _ z => by cases z) fun o e n => k a o e n (.inr (.inl z)), hz a z⟩
    · exact .inr t
  | .dic true ks xs, v, F, k, h => by
    obtain ⟨a, vs, F', e, t, l, r, rfl⟩ := h
    exact ⟨a, vs, F', e, k a _ t (fun _ z => by cases z) (.inl List.mem_cons_self), l, RL.keep hz xs vs F' (fun b o e n q => k b o e n (q.imp_left (List.mem_cons_of_mem _))) r, rfl⟩
  | .dic false ks xs, v, F, k, h => by
    obtain ⟨a, vs, e, t, z, l, r, rfl⟩ := h
    exact ⟨a, vs, e, k a _ t (fun _ z => by cases z) (.inr (.inl z)), hz a z, l, RL.keep hz xs vs [] k r, rfl⟩
  | .dit true ks xs, v, F, k, h => by
    obtain ⟨a, o, kas, vs, F', e, t, l, r, rfl⟩ := h
    exact ⟨a, o, kas, vs, F', e, k a _ t (fun _ z => by cases z) (.inl List.mem_cons_self), ⟨l.1, KeysIs.keep (fun b o e n q => k b o e n (.inr (.inr q))) _ _ l.2⟩, RL.keep hz xs vs F' (fun b o e n q => k b o e n (q.imp_left (List.mem_cons_of_mem _))) r, rfl⟩
  | .dit false ks xs, v, F, k, h => by
    obtain ⟨a, o, kas, vs, e, t, z, l, r, rfl⟩ := h
    exact ⟨a, o, kas, vs, e, k a _ t (fun _ z => by cases z) (.inr (.inl z)), hz a z, ⟨l.1, KeysIs.keep (fun b o e n q => k b o e n (.inr (.inr q))) _ _ l.2⟩, RL.keep hz xs vs [] k r, rfl⟩
  | .obj true c ns xs, v, F, k, h => by
    obtain ⟨a, dx, ci, vs, F', e, m, n, f, t, l, r, rfl⟩ := h
    exact ⟨a, dx, ci, vs, F', e, m, n, f, k a _ t (fun _ z => by cases z) (.inl List.mem_cons_self), l, RL.keep hz xs vs F' (fun b o e n q => k b o e n (q.imp_left (List.mem_cons_of_mem _))) r, rfl⟩
  | .obj false c ns xs, v, F, k, h => by
    obtain ⟨a, dx, ci, vs, e, m, n, f, t, z, l, r, rfl⟩ := h
    exact ⟨a, dx, ci, vs, e, m, n, f, k a _ t (fun _ z => by cases z) (.inr (.inl z)), hz a z, l, RL.keep hz xs vs [] k r, rfl⟩
  | .opq, _, _, _, h => h
  | .at a _, _, _, k, h => ⟨h.1, fun o' e => ⟨k a _ (h.2.1 o' e).1 (fun _ z => by cases z) (.inr (.inl (h.2.1 o' e).2)), hz a (h.2.1 o' e).2⟩, h.2.2⟩
theorem RL.keep (hz : ∀ a, Z a → Z' a) : ∀ (d : List D) (v : List V) (F : List Addr), (∀ a o, H a = some o → NT o → (a ∈ F ∨ Z a ∨ ¬ Mut (some o)) → H' a = some o) → RL K cs H Z d v F → RL K cs H' Z' d v F
  | [], _, _, _, h => h
  | x :: xs, v, F, k, h => by
    obtain ⟨v, vs', F1, F2, e, r1, r2, rfl⟩ := h
    exact ⟨v, vs', F1, F2, e, R.keep hz x v F1 (fun b o e n q => k b o e n (q.imp_left fun m => List.mem_append_left _ m)) r1, RL.keep hz xs vs' F2 (fun b o e n q => k b o e n (q.imp_left fun m => List.mem_append_right _ m)) r2, rfl⟩
end
mutual
theorem R.alloc : ∀ (d : D) (v : V) (F : List Addr), R K cs H Z d v F → ∀ a ∈ F, ∃ o, H a = some o
  | .non, _, _, h, a, m => by rw [h.2] at m; cases m
  | .bl _, _, _, h, a, m => by rw [h.2] at m; cases m
  | .int _, _, _, h, a, m => by rw [h.2] at m; cases m
  | .str _, _, _, h, a, m => by rw [h.2] at m; cases m
  | .tup xs, v, F, h, a, m => by
    obtain ⟨_, vs, e, t, r⟩ := h
    exact RL.alloc xs vs F r a m
  | .lst true xs, v, F, h, a, m => by
    obtain ⟨b, vs, F', e, t, r, rfl⟩ := h
    rcases List.mem_cons.mp m with rfl | m
    · exact ⟨_, t⟩
    · exact RL.alloc xs vs F' r a m
  | .lst false xs, v, F, h, a, m => by
    obtain ⟨b, vs, e, t, r, rfl⟩ := h
    cases m
  | .dic true ks xs, v, F, h, a, m => by
    obtain ⟨b, vs, F', e, t, l, r, rfl⟩ := h
    rcases List.mem_cons.mp m with rfl | m
    · exact ⟨_, t⟩
    · exact RL.alloc xs vs F' r a m
  | .dic false ks xs, v, F, h, a, m => by
    obtain ⟨b, vs, e, t, z, l, r, rfl⟩ := h
    cases m
  | .dit true ks xs, v, F, h, a, m => by
    obtain ⟨b, o, kas, vs, F', e, t, l, r, rfl⟩ := h
    rcases List.mem_cons.mp m with rfl | m
    · exact ⟨_, t⟩
    · exact RL.alloc xs vs F' r a m
  | .dit false ks xs, v, F, h, a, m => by
    obtain ⟨b, o, kas, vs, e, t, z, l, r, rfl⟩ := h
    cases m
  | .obj true c ns xs, v, F, h, a, m => by
    obtain ⟨b, dx, ci, vs, F', e, _, _, _, t, l, r, rfl⟩ := h
    rcases List.mem_cons.mp m with rfl | m
    · exact ⟨_, t⟩
    · exact RL.alloc xs vs F' r a m
  | .obj false c ns xs, v, F, h, a, m => by
    obtain ⟨b, dx, ci, vs, e, _, _, _, t, z, l, r, rfl⟩ := h
    cases m
  | .opq, v, F, h, a, m => by
    have h : F = [] := h
    rw [h] at m; cases m
  | .at _ _, v, F, h, a, m => by rw [h.2.2] at m; cases m
theorem RL.alloc : ∀ (d : List D) (v : List V) (F : List Addr), RL K cs H Z d v F → ∀ a ∈ F, ∃ o, H a = some o
  | [], _, _, h, a, m => by rw [h.2] at m; cases m
  | x :: xs, v, F, h, a, m => by
    obtain ⟨v, vs', F1, F2, e, r1, r2, rfl⟩ := h
    rcases List.mem_append.mp m with m | m
    · exact R.alloc x v F1 r1 a m
    · exact RL.alloc xs vs' F2 r2 a m
end
mutual
theorem R.allocM : ∀ (d : D) (v : V) (F : List Addr), R K cs H Z d v F → ∀ a ∈ F, ∃ o, H a = some o ∧ Mu o
  | .non, _, _, h, a, m => by rw [h.2] at m; cases m
  | .bl _, _, _, h, a, m => by rw [h.2] at m; cases m
  | .int _, _, _, h, a, m => by rw [h.2] at m; cases m
  | .str _, _, _, h, a, m => by rw [h.2] at m; cases m
  | .tup xs, v, F, h, a, m => by
    obtain ⟨_, vs, e, t, r⟩ := h
    exact RL.allocM xs vs F r a m
  | .lst true xs, v, F, h, a, m => by
    obtain ⟨b, vs, F', e, t, r, rfl⟩ := h
    rcases List.mem_cons.mp m with rfl | m
    · exact ⟨_, t, trivial⟩
    · exact RL.allocM xs vs F' r a m
  | .lst false xs, v, F, h, a, m => by
    obtain ⟨b, vs, e, t, r, rfl⟩ := h
    cases m
  | .dic true ks xs, v, F, h, a, m => by
    obtain ⟨b, vs, F', e, t, l, r, rfl⟩ := h
    rcases List.mem_cons.mp m with rfl | m
    · exact ⟨_, t, trivial⟩
    · exact RL.allocM xs vs F' r a m
  | .dic false ks xs, v, F, h, a, m => by
    obtain ⟨b, vs, e, t, z, l, r, rfl⟩ := h
    cases m
  | .dit true ks xs, v, F, h, a, m => by
    obtain ⟨b, o, kas, vs, F', e, t, ⟨⟨_, _, _, _, _, _, _, _, _, _, hd, _⟩, _⟩, r, rfl⟩ := h
    rcases List.mem_cons.mp m with rfl | m
    · exact ⟨_, t, exo_mu hd⟩
    · exact RL.allocM xs vs F' r a m
  | .dit false ks xs, v, F, h, a, m => by
    obtain ⟨b, o, kas, vs, e, t, z, l, r, rfl⟩ := h
    cases m
  | .obj true c ns xs, v, F, h, a, m => by
    obtain ⟨b, dx, ci, vs, F', e, _, _, _, t, l, r, rfl⟩ := h
    rcases List.mem_cons.mp m with rfl | m
    · exact ⟨_, t, trivial⟩
    · exact RL.allocM xs vs F' r a m
  | .obj false c ns xs, v, F, h, a, m => by
    obtain ⟨b, dx, ci, vs, e, _, _, _, t, z, l, r, rfl⟩ := h
    cases m
  | .opq, v, F, h, a, m => by
    have h : F = [] := h
    rw [h] at m; cases m
  | .at _ _, v, F, h, a, m => by rw [h.2.2] at m; cases m
theorem RL.allocM : ∀ (d : List D) (v : List V) (F : List Addr), RL K cs H Z d v F → ∀ a ∈ F, ∃ o, H a = some o ∧ Mu o
  | [], _, _, h, a, m => by rw [h.2] at m; cases m
  | x :: xs, v, F, h, a, m => by
    obtain ⟨v, vs', F1, F2, e, r1, r2, rfl⟩ := h
    rcases List.mem_append.mp m with m | m
    · exact R.allocM x v F1 r1 a m
    · exact RL.allocM xs vs' F2 r2 a m
end
mutual
theorem R.fr (hz : ∀ a, Z a → Z' a) : ∀ (d : D) (v : V) (F : List Addr), (∀ a ∈ F, Z' a) → R K cs H Z d v F → R K cs H Z' (frz d) v []
  | .non, _, _, _, h => ⟨h.1, rfl⟩
  | .bl _, _, _, _, h => ⟨h.1, rfl⟩
  | .int _, _, _, _, h => ⟨h.1, rfl⟩
  | .str _, _, _, _, h => ⟨h.1, rfl⟩
  | .tup xs, v, F, k, h => by
    obtain ⟨a, vs, e, t, r⟩ := h
    exact ⟨a, vs, e, t, RL.fr hz xs vs F k r⟩
  | .lst true xs, v, F, k, h => by
    obtain ⟨a, vs, F', e, t, r, rfl⟩ := h
    exact ⟨a, vs, e, .inl ⟨.inl t, k a List.mem_cons_self⟩, RL.fr hz xs vs F' (fun b m => k b (List.mem_cons_of_mem _ m)) r, rfl⟩
  | .lst false xs, v, F, k, h => by
    obtain ⟨a, vs, e, t, r, rfl⟩ := h
    exact ⟨a, vs, e, t.imp_left fun t => ⟨t.1, hz a t.2⟩, RL.fr hz xs vs [] k r, rfl⟩
  | .dic true ks xs, v, F, k, h => by
    obtain ⟨a, vs, F', e, t, l, r, rfl⟩ := h
    exact ⟨a, vs, e, t, k a List.mem_cons_self, by rw [l, frzL_map, List.length_map], RL.fr hz xs vs F' (fun b m => k b (List.mem_cons_of_mem _ m)) r, rfl⟩
  | .dic false ks xs, v, F, k, h => by
    obtain ⟨a, vs, e, t, z, l, r, rfl⟩ := h
    exact ⟨a, vs, e, t, hz a z, by rw [l, frzL_map, List.length_map], RL.fr hz xs vs [] k r, rfl⟩
  | .dit true ks xs, v, F, k, h => by
    obtain ⟨a, o, kas, vs, F', e, t, l, r, rfl⟩ := h
    exact ⟨a, o, kas, vs, e, t, k a List.mem_cons_self, l, RL.fr hz xs vs F' (fun b m => k b (List.mem_cons_of_mem _ m)) r, rfl⟩
  | .dit false ks xs, v, F, k, h => by
    obtain ⟨a, o, kas, vs, e, t, z, l, r, rfl⟩ := h
    exact ⟨a, o, kas, vs, e, t, hz a z, l, RL.fr hz xs vs [] k r, rfl⟩
  | .obj true c ns xs, v, F, k, h => by
    obtain ⟨a, dx, ci, vs, F', e, m, n, f, t, l, r, rfl⟩ := h
    exact ⟨a, dx, ci, vs, e, m, n, f, t, k a List.mem_cons_self, by rw [l, frzL_map, List.length_map], RL.fr hz xs vs F' (fun b m => k b (List.mem_cons_of_mem _ m)) r, rfl⟩
  | .obj false c ns xs, v, F, k, h => by
    obtain ⟨a, dx, ci, vs, e, m, n, f, t, z, l, r, rfl⟩ := h
    exact ⟨a, dx, ci, vs, e, m, n, f, t, hz a z, by rw [l, frzL_map, List.length_map], RL.fr hz xs vs [] k r, rfl⟩
  | .opq, _, _, _, _ => rfl
  | .at a _, _, _, _, h => ⟨h.1, fun o' e => ⟨(h.2.1 o' e).1, hz a (h.2.1 o' e).2⟩, rfl⟩
theorem RL.fr (hz : ∀ a, Z a → Z' a) : ∀ (d : List D) (v : List V) (F : List Addr), (∀ a ∈ F, Z' a) → RL K cs H Z d v F → RL K cs H Z' (frzL d) v []
  | [], _, _, _, h => ⟨h.1, rfl⟩
  | x :: xs, v, F, k, h => by
    obtain ⟨v, vs', F1, F2, e, r1, r2, rfl⟩ := h
    exact ⟨v, vs', [], [], e, R.fr hz x v F1 (fun b m => k b (List.mem_append_left _ m)) r1, RL.fr hz xs vs' F2 (fun b m => k b (List.mem_append_right _ m)) r2, rfl⟩
end
mutual
theorem R.noF : ∀ (d : D) (v : V) (F : List Addr), noOwn d = true → R K cs H Z d v F → F = []
  | .non, _, _, _, h => h.2
  | .bl _, _, _, _, h => h.2
  | .int _, _, _, _, h => h.2
  | .str _, _, _, _, h => h.2
  | .tup xs, v, F, q, h => by
    obtain ⟨a, vs, e, t, r⟩ := h
    exact RL.noF xs vs F q r
  | .lst true xs, v, F, q, h => by rw [noOwn] at q; cases q
  | .lst false xs, v, F, q, h => by obtain ⟨a, vs, e, t, r, rfl⟩ := h; rfl
  | .dic true _ xs, v, F, q, h => by rw [noOwn] at q; cases q
  | .dic false _ xs, v, F, q, h => by obtain ⟨a, vs, e, t, z, l, r, rfl⟩ := h; rfl
  | .dit true _ xs, v, F, q, h => by rw [noOwn] at q; cases q
  | .dit false _ xs, v, F, q, h => by obtain ⟨a, o, kas, vs, e, t, z, l, r, rfl⟩ := h; rfl
  | .obj true _ _ xs, v, F, q, h => by rw [noOwn] at q; cases q
  | .obj false _ _ xs, v, F, q, h => by obtain ⟨a, dx, ci, vs, e, _, _, _, t, z, l, r, rfl⟩ := h; rfl
  | .opq, _, _, _, h => h
  | .at _ _, _, _, _, h => h.2.2
theorem RL.noF : ∀ (d : List D) (v : List V) (F : List Addr), noOwnL d = true → RL K cs H Z d v F → F = []
  | [], _, _, _, h => h.2
  | x :: xs, v, F, q, h => by
    obtain ⟨v, vs', F1, F2, e, r1, r2, rfl⟩ := h
    rw [noOwnL] at q; simp only [Bool.and_eq_true] at q
    rw [R.noF x v F1 q.1 r1, RL.noF xs vs' F2 q.2 r2]; rfl
end
mutual
theorem R.anyZ : ∀ (d : D) (v : V) (F : List Addr), alo d = true → R K cs H Z d v F → R K cs H Z' d v F
  | .non, _, _, _, h => h
  | .bl _, _, _, _, h => h
  | .int _, _, _, _, h => h
  | .str _, _, _, _, h => h
  | .tup xs, v, F, q, h => by
    obtain ⟨a, vs, e, t, r⟩ := h
    exact ⟨a, vs, e, t, RL.anyZ xs vs F q r⟩
  | .lst true xs, v, F, q, h => by
    obtain ⟨a, vs, F', e, t, r, rfl⟩ := h
    exact ⟨a, vs, F', e, t, RL.anyZ xs vs F' (by simpa [alo] using q) r, rfl⟩
  | .lst false xs, v, F, q, h => by rw [alo] at q; cases q
  | .dic true ks xs, v, F, q, h => by
    obtain ⟨a, vs, F', e, t, l, r, rfl⟩ := h
    exact ⟨a, vs, F', e, t, l, RL.anyZ xs vs F' (by simpa [alo] using q) r, rfl⟩
  | .dic false _ xs, v, F, q, h => by rw [alo] at q; cases q
  | .dit true ks xs, v, F, q, h => by
    obtain ⟨a, o, kas, vs, F', e, t, l, r, rfl⟩ := h
    exact ⟨a, o, kas, vs, F', e, t, l, RL.anyZ xs vs F' (by simpa [alo] using q) r, rfl⟩
  | .dit false _ xs, v, F, q, h => by rw [alo] at q; cases q
  | .obj true c ns xs, v, F, q, h => by
    obtain ⟨a, dx, ci, vs, F', e, m, n, f, t, l, r, rfl⟩ := h
    exact ⟨a, dx, ci, vs, F', e, m, n, f, t, l, RL.anyZ xs vs F' (by simpa [alo] using q) r, rfl⟩
  | .obj false _ _ xs, v, F, q, h => by rw [alo] at q; cases q
  | .opq, _, _, _, h => h
  | .at _ o, _, _, q, h => by
    cases o with
    | none => exact ⟨h.1, (fun _ e => nomatch e), h.2.2⟩
    | some _ => cases q
theorem RL.anyZ : ∀ (d : List D) (v : List V) (F : List Addr), aloL d = true → RL K cs H Z d v F → RL K cs H Z' d v F
  | [], _, _, _, h => h
  | x :: xs, v, F, q, h => by
    obtain ⟨v, vs', F1, F2, e, r1, r2, rfl⟩ := h
    rw [aloL] at q; simp only [Bool.and_eq_true] at q
    exact ⟨v, vs', F1, F2, e, R.anyZ x v F1 q.1 r1, RL.anyZ xs vs' F2 q.2 r2, rfl⟩
end
theorem RL.len : ∀ {d : List D} {v : List V} {F : List Addr}, RL K cs H Z d v F → v.length = d.length
  | [], _, _, h => by rw [h.1]; rfl
  | x :: xs, v, F, h => by
    obtain ⟨v, vs', F1, F2, rfl, r1, r2, rfl⟩ := h
    simp [RL.len r2]
theorem RL.get : ∀ {d : List D} {v : List V} {F : List Addr} {i : Nat} {x : D}, RL K cs H Z d v F → d[i]? = some x → ∃ y G, v[i]? = some y ∧ R K cs H Z x y G ∧ ∀ a ∈ G, a ∈ F
  | [], _, _, i, x, h, e => by simp at e
  | x :: xs, v, F, 0, y, h, e => by
    obtain ⟨v, vs', F1, F2, rfl, r1, r2, rfl⟩ := h
    simp at e; subst e
    exact ⟨v, F1, rfl, r1, fun a m => List.mem_append_left _ m⟩
  | x :: xs, v, F, i + 1, y, h, e => by
    obtain ⟨v, vs', F1, F2, rfl, r1, r2, rfl⟩ := h
    obtain ⟨z, G, h1, h2, h3⟩ := RL.get (i := i) r2 (by simpa using e)
    exact ⟨z, G, by simpa using h1, h2, fun a m => List.mem_append_right _ (h3 a m)⟩
theorem RL.app : ∀ {d e : List D} {v w : List V} {F G : List Addr}, RL K cs H Z d v F → RL K cs H Z e w G → RL K cs H Z (d ++ e) (v ++ w) (F ++ G)
  | [], e, v, w, F, G, h, r => by rw [h.1, h.2]; exact r
  | x :: xs, e, v, w, F, G, h, r => by
    obtain ⟨v, vs', F1, F2, rfl, r1, r2, rfl⟩ := h
    exact ⟨v, vs' ++ w, F1, F2 ++ G, rfl, r1, RL.app r2 r, by rw [List.append_assoc]⟩
theorem RL.one {d : D} {v : V} {F : List Addr} (h : R K cs H Z d v F) : RL K cs H Z [d] [v] F := ⟨v, [], F, [], rfl, h, ⟨rfl, rfl⟩, by simp⟩
theorem RL.get0 {d : List D} {v : List V} {i : Nat} {x : D} {y : V} (h : RL K cs H Z d v []) (e1 : d[i]? = some x) (e2 : v[i]? = some y) : R K cs H Z x y [] := by
  obtain ⟨z, G, a, b, c⟩ := RL.get h e1
  rw [e2] at a; cases a
  have : G = [] := List.eq_nil_iff_forall_not_mem.mpr fun a m => absurd (c a m) (by simp)
  rw [this] at b; exact b
end
end VL
set_option maxHeartbeats 1000000
namespace VL
open PySem L2

abbrev Env := List (Option D)
abbrev TED := Env → (D → Prop) → Prop
abbrev TTD := Env → (Bool → Prop) → Prop
abbrev TAD := Env → (List D → Prop) → Prop
/-- an exception: its class, the number of its row (where it has one) -/
structure XC where
  cls : Str
  row : Option Int
structure EndsD where
  nx : Env → Prop
  rt : D → Env → Prop
  bk : Env → Prop := fun _ => False
  ct : Env → Prop := fun _ => False
  ex : XC → Env → Prop := fun _ _ => False
abbrev TSD := EndsD → Env → Prop

/-- the entry: the heap, what is frozen, what may be written, the slots that stay, what is kept besides -/
structure En where
  H0 : Hp
  Z0 : Addr → Prop
  W : Addr → Prop
  io : List (Nat × V)
  gs : List (D × V)
open LamX in
theorem tabs_keep {T : List (Addr × Str)} {H H' : Hp} (t : Tabs T H) (k : ∀ b o, H b = some o → ¬ Mu o → H' b = some o) : Tabs T H' := by
  intro p hp
  obtain ⟨ps, h1, h2, h3⟩ := t p hp
  refine ⟨ps, k _ _ h1 (fun z => z), h2, fun pos cv hc => ?_⟩
  obtain ⟨c, e1, e2⟩ := h3 pos cv hc
  exact ⟨c, e1, k _ _ e2 (fun z => z _ _ rfl)⟩
/-- all stays, but that tables may grow -/
structure Sm (cs : Cs) (H H' : Hp) : Prop where
  keep : ∀ a o, H a = some o → NT o → H' a = some o
  there : ∀ a o, H a = some o → ∃ o', H' a = some o'
  tabs : LamX.Tabs cs.tb H → LamX.Tabs cs.tb H'
theorem Sm.at {cs : Cs} {H H' : Hp} (s : Sm cs H H') {a : Addr} {o : HO} (h : H a = some o) (n : NT o := by intro _ z; cases z) : H' a = some o := s.keep a o h n
theorem Sm.of {cs : Cs} {H H' : Hp} (s : Same H H') : Sm cs H H' := ⟨fun a o h _ => s a o h, fun a o h => ⟨o, s a o h⟩, fun t => t.ext s⟩
theorem Sm.refl {cs : Cs} (H : Hp) : Sm cs H H := .of (Same.refl H)
theorem Sm.trans {cs : Cs} {H H1 H2 : Hp} (a : Sm cs H H1) (b : Sm cs H1 H2) : Sm cs H H2 :=
  ⟨fun c o h n => b.keep c o (a.keep c o h n) n, fun c o h => let ⟨o', h'⟩ := a.there c o h; b.there c o' h', fun t => b.tabs (a.tabs t)⟩
theorem Sm.free {cs : Cs} {H H' : Hp} (s : Sm cs H H') {a : Addr} (h : H' a = none) : H a = none := by
  cases e : H a with
  | none => rfl
  | some o =>
    obtain ⟨o', w⟩ := s.there a o e
    rw [h] at w; cases w
structure Ext (cs : Cs) (H H' : Hp) (Z Z' : Addr → Prop) : Prop where
  same : Sm cs H H'
  up : ∀ a, Z a → Z' a
  new : ∀ a, Z' a → Z a ∨ (H a = none ∧ ∃ o, H' a = some o)
theorem Ext.refl {cs : Cs} (H : Hp) (Z : Addr → Prop) : Ext cs H H Z Z := ⟨Sm.refl H, fun _ h => h, fun _ h => .inl h⟩
theorem Ext.of {cs : Cs} {H H' : Hp} {Z : Addr → Prop} (s : Sm cs H H') : Ext cs H H' Z Z := ⟨s, fun _ h => h, fun _ h => .inl h⟩
theorem Ext.trans {cs : Cs} {H H1 H2 : Hp} {Z Z1 Z2 : Addr → Prop} (a : Ext cs H H1 Z Z1) (b : Ext cs H1 H2 Z1 Z2) : Ext cs H H2 Z Z2 := by
  refine ⟨a.same.trans b.same, fun c h => b.up c (a.up c h), fun c h => ?_⟩
  rcases b.new c h with h | ⟨h, o, ho⟩
  · rcases a.new c h with h | ⟨h, o, ho⟩
    · exact .inl h
    · exact .inr ⟨h, b.same.there _ o ho⟩
  · exact .inr ⟨a.same.free h, o, ho⟩
theorem same_upd {cs : Cs} {H : Hp} {p : Addr} {o : HO} (h : H p = none) : Sm cs H (upd H p o) := .of fun b u e => by rw [upd_ne (ne_of_none e h)]; exact e

structure Rel (K : PySem.W.Frag) (cs : Cs) (e : En) (H : Hp) (Z : Addr → Prop) (σ : St) (env : Env) (Fs : Nat → List Addr) : Prop where
  slot : ∀ (i : Nat) (d : D), env[i]? = some (some d) → ∃ v, σ[i]? = some (some v) ∧ R K cs H Z d v (Fs i)
  off : ∀ i : Nat, (∀ d, env[i]? ≠ some (some d)) → Fs i = []
  nd : ∀ i, (Fs i).Nodup
  dj : ∀ i j a, i ≠ j → a ∈ Fs i → a ∉ Fs j
  dz : ∀ i a, a ∈ Fs i → ¬ Z a
  za : ∀ a, Z a → ∃ o, H a = some o
  own : ∀ i a, a ∈ Fs i → e.W a ∨ e.H0 a = none
  fr : ∀ a o, e.H0 a = some o → NT o → ¬ e.W a → H a = some o
  th : ∀ a o, e.H0 a = some o → e.W a ∨ ∃ o', H a = some o'
  tb : LamX.Tabs cs.tb H
  z0 : ∀ a, e.Z0 a → Z a
  z1 : ∀ a, Z a → e.Z0 a ∨ e.H0 a = none ∨ e.W a
  io : ∀ p ∈ e.io, σ[p.1]? = some (some p.2)
  gs : ∀ p ∈ e.gs, R K cs H Z p.1 p.2 []
  len : σ.length = env.length
section
variable {K : PySem.W.Frag} {cs : Cs} {e : En} {H H' : Hp} {Z Z' : Addr → Prop} {σ : St} {env : Env} {Fs : Nat → List Addr}
theorem R.ext {d : D} {v : V} {F : List Addr} (x : Ext cs H H' Z Z') (h : R K cs H Z d v F) : R K cs H' Z' d v F := R.keep x.up d v F (fun a o e n _ => x.same.keep a o e n) h
theorem RL.ext {d : List D} {v : List V} {F : List Addr} (x : Ext cs H H' Z Z') (h : RL K cs H Z d v F) : RL K cs H' Z' d v F := RL.keep x.up d v F (fun a o e n _ => x.same.keep a o e n) h
theorem Rel.alloc (r : Rel K cs e H Z σ env Fs) {i : Nat} {a : Addr} (h : a ∈ Fs i) : ∃ o, H a = some o := by
  by_cases q : ∃ d, env[i]? = some (some d)
  · obtain ⟨d, q⟩ := q
    obtain ⟨v, _, w⟩ := r.slot i d q
    exact R.alloc d v _ w a h
  · have := r.off i fun d z => q ⟨d, z⟩
    rw [this] at h; cases h
theorem Rel.free0 (r : Rel K cs e H Z σ env Fs) {a : Addr} (h : H a = none) : e.W a ∨ e.H0 a = none := by
  by_cases q : e.W a
  · exact .inl q
  · refine .inr ?_
    cases z : e.H0 a with
    | none => rfl
    | some o =>
      rcases r.th a o z with w | ⟨o', w⟩
      · exact absurd w q
      · rw [h] at w; cases w
theorem Rel.nz (r : Rel K cs e H Z σ env Fs) {a : Addr} (h : H a = none) : ¬ Z a := fun z => by
  obtain ⟨o, q⟩ := r.za a z
  rw [h] at q; cases q
theorem Rel.ext (r : Rel K cs e H Z σ env Fs) (x : Ext cs H H' Z Z') : Rel K cs e H' Z' σ env Fs where
  slot := fun i d h => let ⟨v, a, b⟩ := r.slot i d h; ⟨v, a, b.ext x⟩
  off := r.off
  nd := r.nd
  dj := r.dj
  dz := fun i a m z => by
    rcases x.new a z with z | ⟨z, _⟩
    · exact r.dz i a m z
    · obtain ⟨o, q⟩ := r.alloc m
      rw [z] at q; cases q
  za := fun a z => by
    rcases x.new a z with z | ⟨_, z⟩
    · obtain ⟨o, q⟩ := r.za a z
      exact x.same.there _ o q
    · exact z
  own := r.own
  fr := fun a o h n w => x.same.keep _ _ (r.fr a o h n w) n
  th := fun a o h => (r.th a o h).imp_right fun ⟨o', h'⟩ => x.same.there a o' h'
  tb := x.same.tabs r.tb
  z0 := fun a h => x.up a (r.z0 a h)
  z1 := fun a z => by
    rcases x.new a z with z | ⟨z, _⟩
    · exact r.z1 a z
    · rcases r.free0 z with w | w
      · exact .inr (.inr w)
      · exact .inr (.inl w)
  io := r.io
  gs := fun p m => (r.gs p m).ext x
  len := r.len
end

/-! ### judgements -/
def tOf (K : PySem.W.Frag) (cs : Cs) (t : TED) : TE := fun σ H Q => ∃ e env Z Fs, Rel K cs e H Z σ env Fs ∧ ∃ QD, t env QD ∧ ∀ v H' Z' d F, Ext cs H H' Z Z' → R K cs H' Z' d v F → QD d → Q v H'
def tOfT (K : PySem.W.Frag) (cs : Cs) (t : TED) : TE := fun σ H Q => ∃ e env Z Fs, Rel K cs e H Z σ env Fs ∧ ∃ QD, t env QD ∧
  ∀ v H' Z' d F, Ext cs H H' Z Z' → R K cs H' Z' d v F → F.Nodup → (∀ a ∈ F, H a = none ∧ ¬ Z' a) → QD d → Q v H'
def tOfB (K : PySem.W.Frag) (cs : Cs) (t : TTD) : TT := fun σ H Q => ∃ e env Z Fs, Rel K cs e H Z σ env Fs ∧ ∃ QD, t env QD ∧ ∀ b H' Z', Ext cs H H' Z Z' → QD b → Q b H'
/-- arguments; mv: the slots that are moved -/
def tOfM (K : PySem.W.Frag) (cs : Cs) (mv : List Nat) (t : TAD) : TA := fun σ H Q => ∃ e env Z Fs, Rel K cs e H Z σ env Fs ∧ ∃ QD, t env QD ∧
  ∀ vs H' Z' ds F, Ext cs H H' Z Z' → RL K cs H' Z' ds vs F → F.Nodup → (∀ a ∈ F, ¬ Z' a ∧ (H a = none ∨ ∃ i ∈ mv, a ∈ Fs i)) → QD ds → Q vs H'
/-- arguments that are looked at alone -/
def tOfA (K : PySem.W.Frag) (cs : Cs) (t : TAD) : TA := fun σ H Q => ∃ e env Z Fs, Rel K cs e H Z σ env Fs ∧ ∃ QD, t env QD ∧
  ∀ vs H' Z' ds F, Ext cs H H' Z Z' → RL K cs H' Z' ds vs F → QD ds → Q vs H'
structure VP (X : Cx) (cs : Cs) (e : Expr) (t : TED) : Prop where
  run : PE X e (tOf X.K cs t)
structure VT (X : Cx) (cs : Cs) (e : Expr) (t : TED) : Prop where
  run : PE X e (tOfT X.K cs t)
structure VB (X : Cx) (cs : Cs) (e : Expr) (t : TTD) : Prop where
  run : PT X e (tOfB X.K cs t)
structure VM (X : Cx) (cs : Cs) (mv : List Nat) (es : List Expr) (t : TAD) : Prop where
  run : PA X es (tOfM X.K cs mv t)
structure VAr (X : Cx) (cs : Cs) (es : List Expr) (t : TAD) : Prop where
  run : PA X es (tOfA X.K cs t)

theorem pe_weak {X : Cx} {e : Expr} {t t' : TE} (h : PE X e t) (w : ∀ σ H Q, t' σ H Q → t σ H Q) : PE X e t' := ⟨fun pins s σ H Q I q => h.run pins s σ H Q I (w σ H Q q)⟩
theorem pt_weak {X : Cx} {e : Expr} {t t' : TT} (h : PT X e t) (w : ∀ σ H Q, t' σ H Q → t σ H Q) : PT X e t' := ⟨fun pins s σ H Q I q => h.run pins s σ H Q I (w σ H Q q)⟩
theorem pa_weak {X : Cx} {e : List Expr} {t t' : TA} (h : PA X e t) (w : ∀ σ H Q, t' σ H Q → t σ H Q) : PA X e t' := ⟨fun pos pins s σ H Q I q => h.run pos pins s σ H Q I (w σ H Q q)⟩
theorem ps_weak {X : Cx} {st : Stmt} {t t' : TS} (h : PS X st t) (w : ∀ D σ H, t' D σ H → t D σ H) : PS X st t' := ⟨fun pins s σ H D I q => h.run pins s σ H D I (w D σ H q)⟩
theorem pss_weak {X : Cx} {st : List Stmt} {t t' : TS} (h : PSs X st t) (w : ∀ D σ H, t' D σ H → t D σ H) : PSs X st t' := ⟨fun pins s σ H D I q => h.run pins s σ H D I (w D σ H q)⟩

section
variable {X : Cx} {cs : Cs} {a b c : Expr} {pos : Pos} {ta tb : TED} {es : List Expr}
theorem vp_of {t : TED} (h : VT X cs a t) : VP X cs a t := ⟨pe_weak h.run fun σ H Q ⟨e, env, Z, Fs, r, QD, q, k⟩ => ⟨e, env, Z, Fs, r, QD, q, fun v H' Z' d F x y _ _ z => k v H' Z' d F x y z⟩⟩
def tTk (t : TED) : TED := fun env Q => t env fun d => noOwn d = true ∧ Q d
theorem vt_tk {t : TED} (h : VP X cs a t) : VT X cs a (tTk t) := ⟨pe_weak h.run fun σ H Q ⟨e, env, Z, Fs, r, QD, q, k⟩ => ⟨e, env, Z, Fs, r, _, q, fun v H' Z' d F x y z => by
  have := R.noF d v F z.1 y
  subst this
  exact k v H' Z' d [] x y List.nodup_nil (fun a m => absurd m (by simp)) z.2⟩⟩

/-! ### names, constants -/
def v_ (i : Nat) : TED := fun env Q => ∃ d, env[i]? = some (some d) ∧ Q d
theorem vp_v (i : Nat) {x : Str} {pos : Pos} (hN : X.N[i]? = some x := by rfl) (hv : Vis X.env.scope x := by first | exact Or.inl rfl | exact Or.inr (Or.inl rfl) | exact Or.inr (Or.inr rfl)) (hd : (x == ("__debug__" : Str)) = false := by decide)
    (hcd : (x == ("__classdict__" : Str)) = false := by decide) : VP X cs (.Name x pos) (v_ i) :=
  ⟨pe_weak (pe_var hN hv hd hcd) fun σ H Q ⟨e, env, Z, Fs, r, QD, ⟨d, q, qd⟩, k⟩ => by
    obtain ⟨v, h1, h2⟩ := r.slot i d q
    exact ⟨v, h1, k v H Z d _ (Ext.refl H Z) h2 qd⟩⟩
def c_ (d : D) : TED := fun _ Q => Q d
theorem vt_c {v : V} {d : D} (h : PE X a (tC v)) (hr : ∀ H Z, R X.K cs H Z d v []) : VT X cs a (c_ d) :=
  ⟨pe_weak h fun σ H Q ⟨e, env, Z, Fs, r, QD, q, k⟩ => k v H Z d [] (Ext.refl H Z) (hr H Z) List.nodup_nil (fun a m => absurd m (by simp)) q⟩
theorem vt_int {i j pos} : VT X cs (.Constant (.int i) j pos) (c_ (.int i)) := vt_c pe_int fun _ _ => ⟨rfl, rfl⟩
theorem vt_bl {i j pos} : VT X cs (.Constant (.bool i) j pos) (c_ (.bl i)) := vt_c pe_bl fun _ _ => ⟨rfl, rfl⟩
theorem vt_non {j pos} : VT X cs (.Constant .none j pos) (c_ .non) := vt_c pe_non fun _ _ => ⟨rfl, rfl⟩
theorem vt_str {i j pos} : VT X cs (.Constant (.str i) j pos) (c_ (.str i)) := vt_c pe_str fun _ _ => ⟨rfl, rfl⟩
/-- a module's constant -/
theorem vt_glob {x : Str} {v : V} {u : Value} {d : D} {pos : Pos} (hg : Gl X x) (hm : X.mg x = some u) (r : RelV v u) (hr : ∀ H Z, R X.K cs H Z d v []) (hd : (x == ("__debug__" : Str)) = false := by decide) : VT X cs (.Name x pos) (c_ d) :=
  vt_c (pe_glob hg hm r hd) hr

/-! ### operators -/
/-- an operator's rule, by data -/
def OD (K : PySem.W.Frag) (cs : Cs) (r : R2) (f : D → D → (D → Prop) → Prop) : Prop :=
  ∀ (H : Hp) (Z : Addr → Prop) (Q : VK) (QD : D → Prop) (x y : D) (v w : V) (F G : List Addr), (∀ a, Z a → ∃ o, H a = some o) → R K cs H Z x v F → R K cs H Z y w G → f x y QD →
    (∀ u H' Z' d F', Ext cs H H' Z Z' → R K cs H' Z' d u F' → F'.Nodup → (∀ a ∈ F', H a = none ∧ ¬ Z' a) → QD d → Q u H') → r v w H Q
def op2 (f : D → D → (D → Prop) → Prop) (ta tb : TED) : TED := fun env Q => ta env fun x => tb env fun y => f x y Q
theorem od_te {K : PySem.W.Frag} {r : R2} {f : D → D → (D → Prop) → Prop} (hf : OD K cs r f) : ∀ σ H Q, tOfT K cs (op2 f ta tb) σ H Q → tOp r (tOf K cs ta) (tOf K cs tb) σ H Q := fun σ H Q ⟨e, env, Z, Fs, rl, QD, q, k⟩ =>
  ⟨e, env, Z, Fs, rl, _, q, fun v H1 Z1 d F x1 rv q1 => ⟨e, env, Z1, Fs, rl.ext x1, _, q1, fun w H2 Z2 d2 G x2 rw q2 =>
    hf H2 Z2 Q QD d d2 v w F G ((rl.ext x1).ext x2).za (rv.ext x2) rw q2 fun u H3 Z3 d3 F3 x3 r3 nd fre qd => k u H3 Z3 d3 F3 (x1.trans (x2.trans x3)) r3 nd (fun a m => ⟨(x1.trans x2).same.free (fre a m).1, (fre a m).2⟩) qd⟩⟩
theorem vt_op {op : Operator} {r : R2} {f : D → D → (D → Prop) → Prop} (ho : OpR X (binaryOp op) r) (hf : OD X.K cs r f) (ha : VP X cs a ta) (hb : VP X cs b tb) : VT X cs (.BinOp a op b pos) (op2 f ta tb) :=
  ⟨pe_weak (pe_op ho ha.run hb.run) (od_te hf)⟩
theorem vt_cmp {op : CmpOp} {r : R2} {f : D → D → (D → Prop) → Prop} (ho : OpR X (compareOp op) r) (hf : OD X.K cs r f) (ha : VP X cs a ta) (hb : VP X cs b tb) (hm : behindInMarks op b = false) : VT X cs (.Compare a [op] [b] pos) (op2 f ta tb) :=
  ⟨pe_weak (pe_cmpR ho ha.run hb.run hm) (od_te hf)⟩
/-- a bool as a test -/
def bl_ (t : TED) : TTD := fun env Q => t env fun d => match d with | .bl b => Q b | _ => False
theorem te_bl {K : PySem.W.Frag} {t : TED} : ∀ σ H Q, tOfB K cs (bl_ t) σ H Q → tTest (tOfT K cs t) σ H Q := fun σ H Q ⟨e, env, Z, Fs, rl, QD, q, k⟩ =>
  ⟨e, env, Z, Fs, rl, _, q, fun v H' Z' d F x r _ _ z => by
    cases d with
    | bl b => exact ⟨b, r.1, k b H' Z' x z⟩
    | _ => exact False.elim z⟩
theorem te_bl' {K : PySem.W.Frag} {t : TED} : ∀ σ H Q, tOfB K cs (bl_ t) σ H Q → tTest (tOf K cs t) σ H Q := fun σ H Q ⟨e, env, Z, Fs, rl, QD, q, k⟩ =>
  ⟨e, env, Z, Fs, rl, _, q, fun v H' Z' d F x r z => by
    cases d with
    | bl b => exact ⟨b, r.1, k b H' Z' x z⟩
    | _ => exact False.elim z⟩
theorem vb_cmp {op : CmpOp} {r : R2} {f : D → D → (D → Prop) → Prop} (ho : OpR X (compareOp op) r) (hf : OD X.K cs r f) (ha : VP X cs a ta) (hb : VP X cs b tb) (hm : behindInMarks op b = false) : VB X cs (.Compare a [op] [b] pos) (bl_ (op2 f ta tb)) :=
  ⟨pt_weak (pt_cmpR ho ha.run hb.run hm) fun σ H Q h => by
    have := te_bl σ H Q h
    exact od_te hf σ H _ this⟩
theorem vb_val {t : TED} (h : VP X cs a t) (he : ∀ whole, isTrue a X.env whole = (do let v ← whole; standAt a.pos; holding [v] (truthy v)) := by intro _; rfl) : VB X cs a (bl_ t) :=
  ⟨pt_weak (pt_val h.run he) fun σ H Q q => te_bl' σ H Q q⟩
def not_ (t : TTD) : TTD := fun env Q => t env fun b => Q (!b)
theorem vb_not {t : TTD} (h : VB X cs a t) : VB X cs (.UnaryOp .Not a pos) (not_ t) :=
  ⟨pt_weak (pt_not h.run) fun σ H Q ⟨e, env, Z, Fs, rl, QD, q, k⟩ => ⟨e, env, Z, Fs, rl, _, q, fun b H' Z' x z => k (!b) H' Z' x z⟩⟩
structure VW (X : Cx) (cs : Cs) (e : Expr) (t : TTD) : Prop where
  run : PW X e (tOfB X.K cs t)
theorem VW.vb {t : TTD} (h : VW X cs a t) : VB X cs a t := ⟨h.run.pt⟩
theorem pw_weak {X : Cx} {e : Expr} {t t' : TT} (h : PW X e t) (w : ∀ σ H Q, t' σ H Q → t σ H Q) : PW X e t' := ⟨fun wh pins s σ H Q I q => h.run wh pins s σ H Q I (w σ H Q q)⟩
def and_ (t u : TTD) : TTD := fun env Q => t env fun b => (b = true → u env Q) ∧ (b = false → Q false)
def or_ (t u : TTD) : TTD := fun env Q => t env fun b => (b = true → Q true) ∧ (b = false → u env Q)
variable {t u : TTD} {rest : List Expr}
theorem vw_and1 (h : VB X cs a t) : VW X cs (.BoolOp .And [a] pos) t := ⟨pw_and1 h.run⟩
theorem vw_or1 (h : VB X cs a t) : VW X cs (.BoolOp .Or [a] pos) t := ⟨pw_or1 h.run⟩
theorem vw_and (h : VB X cs a t) (h2 : VW X cs (.BoolOp .And (b :: rest) pos) u) : VW X cs (.BoolOp .And (a :: b :: rest) pos) (and_ t u) :=
  ⟨pw_weak (pw_and h.run h2.run) fun σ H Q ⟨e, env, Z, Fs, rl, QD, q, k⟩ => ⟨e, env, Z, Fs, rl, _, q, fun b H' Z' x z => by
    cases b with
    | true => rw [if_pos rfl]; exact ⟨e, env, Z', Fs, rl.ext x, _, z.1 rfl, fun b H2 Z2 x2 z => k b H2 Z2 (x.trans x2) z⟩
    | false => rw [if_neg Bool.false_ne_true]; exact k false H' Z' x (z.2 rfl)⟩⟩
theorem vw_or (h : VB X cs a t) (h2 : VW X cs (.BoolOp .Or (b :: rest) pos) u) : VW X cs (.BoolOp .Or (a :: b :: rest) pos) (or_ t u) :=
  ⟨pw_weak (pw_or h.run h2.run) fun σ H Q ⟨e, env, Z, Fs, rl, QD, q, k⟩ => ⟨e, env, Z, Fs, rl, _, q, fun b H' Z' x z => by
    cases b with
    | true => rw [if_pos rfl]; exact k true H' Z' x (z.1 rfl)
    | false => rw [if_neg Bool.false_ne_true]; exact ⟨e, env, Z', Fs, rl.ext x, _, z.2 rfl, fun b H2 Z2 x2 z => k b H2 Z2 (x.trans x2) z⟩⟩⟩
/-- and, or, not as values: bools -/
def andv_ (ta tb : TED) : TED := fun env Q => ta env fun d => match d with | .bl b => (b = true → tb env Q) ∧ (b = false → Q (.bl false)) | _ => False
def orv_ (ta tb : TED) : TED := fun env Q => ta env fun d => match d with | .bl b => (b = true → Q (.bl true)) ∧ (b = false → tb env Q) | _ => False
def notv_ (ta : TED) : TED := fun env Q => ta env fun d => match d with | .bl b => Q (.bl (!b)) | _ => False
theorem vp_one {op} (h : VP X cs a ta) : VP X cs (.BoolOp op [a] pos) ta := ⟨pe_one h.run⟩
theorem vp_and (ha : VP X cs a ta) (hb : VP X cs (.BoolOp .And (b :: rest) pos) tb) : VP X cs (.BoolOp .And (a :: b :: rest) pos) (andv_ ta tb) :=
  ⟨pe_weak (pe_and ha.run hb.run) fun σ H Q ⟨e, env, Z, Fs, rl, QD, q, k⟩ => ⟨e, env, Z, Fs, rl, _, q, fun v H' Z' d F x r z => by
    cases d with
    | bl b =>
      refine ⟨b, r.1, ?_⟩
      cases b with
      | true => rw [if_pos rfl]; exact ⟨e, env, Z', Fs, rl.ext x, _, z.1 rfl, fun v H2 Z2 d F x2 r z => k v H2 Z2 d F (x.trans x2) r z⟩
      | false => rw [if_neg Bool.false_ne_true]; exact k _ H' Z' (.bl false) [] x ⟨rfl, rfl⟩ (z.2 rfl)
    | _ => exact False.elim z⟩⟩
def if_ (t : TTD) (ta tb : TED) : TED := fun env Q => t env fun b => (b = true → ta env Q) ∧ (b = false → tb env Q)
def un_ (f : D → (D → Prop) → Prop) (ta : TED) : TED := fun env Q => ta env fun x => f x Q
def dNeg : D → (D → Prop) → Prop | .int i, Q => Q (.int (-i)) | _, _ => False
theorem vt_neg (ha : VP X cs a ta) : VT X cs (.UnaryOp .USub a pos) (un_ dNeg ta) :=
  ⟨pe_weak (pe_un un_neg ha.run) fun σ H Q ⟨e, env, Z, Fs, rl, QD, q, k⟩ => ⟨e, env, Z, Fs, rl, _, q, fun v H' Z' d F x r z => by
    cases d with
    | int i => exact ⟨i, r.1, k _ H' Z' (.int (-i)) [] x ⟨rfl, rfl⟩ List.nodup_nil (fun a m => absurd m (by simp)) z⟩
    | _ => exact False.elim z⟩⟩

/-! ### arguments -/
def nil_ : TAD := fun _ Q => Q []
def cons_ (t : TED) (u : TAD) : TAD := fun env Q => t env fun d => u env fun ds => Q (d :: ds)
theorem va_nil : VAr X cs [] nil_ := ⟨pa_weak pa_nil fun σ H Q ⟨e, env, Z, Fs, rl, QD, q, k⟩ => k [] H Z [] [] (Ext.refl H Z) ⟨rfl, rfl⟩ q⟩
theorem va_cons {u : TAD} (ha : VP X cs a ta) (hr : VAr X cs es u) (hs : starEach (a :: es) X.env = (false, eval a X.env) :: starEach es X.env := by rfl) : VAr X cs (a :: es) (cons_ ta u) :=
  ⟨pa_weak (pa_cons ha.run hr.run hs) fun σ H Q ⟨e, env, Z, Fs, rl, QD, q, k⟩ => ⟨e, env, Z, Fs, rl, _, q, fun v H1 Z1 d F x r q1 => ⟨e, env, Z1, Fs, rl.ext x, _, q1, fun vs H2 Z2 ds G x2 r2 q2 =>
    k (v :: vs) H2 Z2 (d :: ds) (F ++ G) (x.trans x2) ⟨v, vs, F, G, rfl, r.ext x2, r2, rfl⟩ q2⟩⟩⟩
theorem vm_nil : VM X cs [] [] nil_ := ⟨pa_weak pa_nil fun σ H Q ⟨e, env, Z, Fs, rl, QD, q, k⟩ => k [] H Z [] [] (Ext.refl H Z) ⟨rfl, rfl⟩ List.nodup_nil (fun a m => absurd m (by simp)) q⟩
theorem vm_cons {u : TAD} {mv : List Nat} (ha : VT X cs a ta) (hr : VM X cs mv es u) (hs : starEach (a :: es) X.env = (false, eval a X.env) :: starEach es X.env := by rfl) : VM X cs mv (a :: es) (cons_ ta u) :=
  ⟨pa_weak (pa_cons ha.run hr.run hs) fun σ H Q ⟨e, env, Z, Fs, rl, QD, q, k⟩ => ⟨e, env, Z, Fs, rl, _, q, fun v H1 Z1 d F x r nd fre q1 => ⟨e, env, Z1, Fs, rl.ext x, _, q1, fun vs H2 Z2 ds G x2 r2 nd2 fre2 q2 => by
    refine k (v :: vs) H2 Z2 (d :: ds) (F ++ G) (x.trans x2) ⟨v, vs, F, G, rfl, r.ext x2, r2, rfl⟩ (List.nodup_append.mpr ⟨nd, nd2, fun a m b n e => ?_⟩) (fun a m => ?_) q2
    · subst e
      rcases (fre2 a n).2 with z | ⟨i, _, z⟩
      · obtain ⟨o, w⟩ := R.alloc d v F r a m
        rw [z] at w; cases w
      · obtain ⟨o, w⟩ := rl.alloc z
        rw [(fre a m).1] at w; cases w
    · rcases List.mem_append.mp m with m | m
      · refine ⟨fun z => ?_, .inl (fre a m).1⟩
        rcases x2.new a z with z | ⟨z, _⟩
        · exact (fre a m).2 z
        · obtain ⟨o, w⟩ := R.alloc d v F r a m
          rw [z] at w; cases w
      · refine ⟨(fre2 a m).1, ?_⟩
        rcases (fre2 a m).2 with z | z
        · exact .inl (x.same.free z)
        · exact .inr z⟩⟩⟩
/-- a name that is handed away -/
theorem vm_mv (i : Nat) {x : Str} {u : TAD} {mv : List Nat} {p : Pos} (hr : VM X cs mv es u) (hi : i ∉ mv := by decide) (hN : X.N[i]? = some x := by rfl) (hv : Vis X.env.scope x := by first | exact Or.inl rfl | exact Or.inr (Or.inl rfl) | exact Or.inr (Or.inr rfl)) (hd : (x == ("__debug__" : Str)) = false := by decide)
    (hcd : (x == ("__classdict__" : Str)) = false := by decide) (hs : starEach (.Name x p :: es) X.env = (false, eval (.Name x p) X.env) :: starEach es X.env := by rfl) : VM X cs (i :: mv) (.Name x p :: es) (cons_ (v_ i) u) :=
  ⟨pa_weak (pa_cons (pe_var hN hv hd hcd) hr.run hs) fun σ H Q ⟨e, env, Z, Fs, rl, QD, ⟨d, hd, q⟩, k⟩ => by
    obtain ⟨v, h1, h2⟩ := rl.slot i d hd
    refine ⟨v, h1, e, env, Z, Fs, rl, _, q, fun vs H2 Z2 ds G x2 r2 nd2 fre2 q2 => ?_⟩
    refine k (v :: vs) H2 Z2 (d :: ds) (Fs i ++ G) x2 ⟨v, vs, Fs i, G, rfl, h2.ext x2, r2, rfl⟩ (List.nodup_append.mpr ⟨rl.nd i, nd2, fun a m b n e => ?_⟩) (fun a m => ?_) q2
    · subst e
      rcases (fre2 a n).2 with z | ⟨j, hj, z⟩
      · obtain ⟨o, w⟩ := rl.alloc m
        rw [z] at w; cases w
      · exact rl.dj i j a (fun q => hi (q ▸ hj)) m z
    · rcases List.mem_append.mp m with m | m
      · exact ⟨(rl.ext x2).dz i a m, .inr ⟨i, List.mem_cons_self, m⟩⟩
      · refine ⟨(fre2 a m).1, ?_⟩
        rcases (fre2 a m).2 with z | ⟨j, hj, z⟩
        · exact .inl z
        · exact .inr ⟨j, List.mem_cons_of_mem _ hj, z⟩⟩

/-! ### displays -/
def lst_ (u : TAD) : TED := fun env Q => u env fun ds => ds.length ≤ sizeLine ∧ Q (.lst true ds)
def tup_ (u : TAD) : TED := fun env Q => u env fun ds => ds.length ≤ sizeLine ∧ Q (.tup ds)
theorem fresh_lst {K : PySem.W.Frag} {H : Hp} {Z : Addr → Prop} {ds : List D} {vs : List V} {F : List Addr} {p : Addr} (hp : H p = none) (r : RL K cs H Z ds vs F) : R K cs (upd H p (.lst vs)) Z (.lst true ds) (.ref p) (p :: F) :=
  ⟨p, vs, F, rfl, upd_same, RL.ext (Ext.of (same_upd hp)) r, rfl⟩
theorem fresh_tup {K : PySem.W.Frag} {H : Hp} {Z : Addr → Prop} {ds : List D} {vs : List V} {F : List Addr} {p : Addr} (hp : H p = none) (r : RL K cs H Z ds vs F) : R K cs (upd H p (.tup vs)) Z (.tup ds) (.ref p) F :=
  ⟨p, vs, rfl, SqT.of upd_same, RL.ext (Ext.of (same_upd hp)) r⟩
theorem vt_lst {u : TAD} (h : VM X cs [] es u) : VT X cs (.List es pos) (lst_ u) :=
  ⟨pe_weak (pe_lst h.run) fun σ H Q ⟨e, env, Z, Fs, rl, QD, q, k⟩ => ⟨e, env, Z, Fs, rl, _, q, fun vs H' Z' ds F x r nd fre z => ⟨by rw [r.len]; exact z.1, fun p hp => by
    have nz : ¬ Z' p := (rl.ext x).nz hp
    refine k _ _ Z' (.lst true ds) (p :: F) (x.trans (Ext.of (same_upd hp))) (fresh_lst hp r) (List.nodup_cons.mpr ⟨fun m => ?_, nd⟩) (fun a m => ?_) z.2
    · obtain ⟨o, w⟩ := RL.alloc ds vs F r p m
      rw [hp] at w; cases w
    · rcases List.mem_cons.mp m with rfl | m
      · exact ⟨x.same.free hp, nz⟩
      · rcases (fre a m).2 with z | ⟨i, hi, _⟩
        · exact ⟨z, (fre a m).1⟩
        · cases hi⟩⟩⟩
theorem vt_tup {u : TAD} {k0} (h : VM X cs [] es u) : VT X cs (.Tuple es k0 pos) (tup_ u) :=
  ⟨pe_weak (pe_tup h.run) fun σ H Q ⟨e, env, Z, Fs, rl, QD, q, k⟩ => ⟨e, env, Z, Fs, rl, _, q, fun vs H' Z' ds F x r nd fre z => ⟨by rw [r.len]; exact z.1, fun p hp => by
    refine k _ _ Z' (.tup ds) F (x.trans (Ext.of (same_upd hp))) (fresh_tup hp r) nd (fun a m => ?_) z.2
    rcases (fre a m).2 with z | ⟨i, hi, _⟩
    · exact ⟨z, (fre a m).1⟩
    · cases hi⟩⟩⟩
end
end VL
set_option maxHeartbeats 2000000
namespace VL
open PySem L2
section
variable {K : PySem.W.Frag} {cs : Cs}
/-- the wish at an operator's end -/
abbrev Fin (K : PySem.W.Frag) (cs : Cs) (H : Hp) (Z : Addr → Prop) (Q : VK) (QD : D → Prop) : Prop :=
  ∀ u H' Z' d F', Ext cs H H' Z Z' → R K cs H' Z' d u F' → F'.Nodup → (∀ a ∈ F', H a = none ∧ ¬ Z' a) → QD d → Q u H'
theorem fin_at {H : Hp} {Z : Addr → Prop} {Q : VK} {QD : D → Prop} {d : D} {v : V} (k : Fin K cs H Z Q QD) (r : R K cs H Z d v []) (q : QD d) : Q v H :=
  k v H Z d [] (Ext.refl H Z) r List.nodup_nil (fun a m => absurd m (by simp)) q
theorem fin_lst {H : Hp} {Z : Addr → Prop} {Q : VK} {QD : D → Prop} {ds : List D} {vs : List V} {p : Addr} (za : ∀ a, Z a → ∃ o, H a = some o) (k : Fin K cs H Z Q QD) (hp : H p = none) (r : RL K cs H Z ds vs []) (q : QD (.lst true ds)) : Q (.ref p) (upd H p (.lst vs)) :=
  k _ _ Z _ [p] (Ext.of (same_upd hp)) (fresh_lst hp r) (by simp) (fun a m => by
    have e : a = p := by simpa using m
    subst e
    exact ⟨hp, fun z => by obtain ⟨o, w⟩ := za _ z; rw [hp] at w; cases w⟩) q
theorem fin_tup {H : Hp} {Z : Addr → Prop} {Q : VK} {QD : D → Prop} {ds : List D} {vs : List V} {p : Addr} (k : Fin K cs H Z Q QD) (hp : H p = none) (r : RL K cs H Z ds vs []) (q : QD (.tup ds)) : Q (.ref p) (upd H p (.tup vs)) :=
  k _ _ Z _ [] (Ext.of (same_upd hp)) (fresh_tup hp r) List.nodup_nil (fun a m => absurd m (by simp)) q
/-- a list or tuple that is read -/
theorem R.lstv {H : Hp} {Z : Addr → Prop} {m : Bool} {xs : List D} {v : V} {F : List Addr} (h : R K cs H Z (.lst m xs) v F) : ∃ a vs F', v = .ref a ∧ SqL K H a vs ∧ RL K cs H Z xs vs F' ∧ (∀ b ∈ F', b ∈ F) := by
  cases m with
  | true =>
    obtain ⟨a, vs, F', e, t, r, rfl⟩ := h
    exact ⟨a, vs, F', e, SqL.of t, r, fun b m => List.mem_cons_of_mem _ m⟩
  | false =>
    obtain ⟨a, vs, e, t, r, rfl⟩ := h
    refine ⟨a, vs, [], e, ?_, r, fun b m => m⟩
    rcases t with t | t
    · exact .inl t.1
    · exact .inr t
theorem R.tupv {H : Hp} {Z : Addr → Prop} {xs : List D} {v : V} {F : List Addr} (h : R K cs H Z (.tup xs) v F) : ∃ a vs, v = .ref a ∧ SqT K H a vs ∧ RL K cs H Z xs vs F := h
theorem RL.noF0 {H : Hp} {Z : Addr → Prop} {xs : List D} {vs : List V} {F : List Addr} (h : RL K cs H Z xs vs F) (n : noOwnL xs = true) : RL K cs H Z xs vs [] := by
  have := RL.noF xs vs F n h
  subst this
  exact h

/-! ### numbers -/
def dInt2 (C : Int → Int → Prop) (g : Int → Int → Int) : D → D → (D → Prop) → Prop
  | .int i, .int j, Q => C i j ∧ Q (.int (g i j))
  | _, _, _ => False
theorem od_int2 {C C' : Int → Int → Prop} {g : Int → Int → Int} (h : ∀ i j, C i j → C' i j) : OD K cs (rI C' fun i j => .int (g i j)) (dInt2 C g) := by
  intro H Z Q QD x y v w F G za rx ry q k
  cases x <;> cases y <;> first
    | exact False.elim q
    | exact ⟨_, _, rx.1, ry.1, h _ _ q.1, fin_at (d := .int _) k ⟨rfl, rfl⟩ q.2⟩
def CDv (_ j : Int) : Prop := 0 < j ∧ j < 10000000000000000000000000000000000000000000000000000000000000000000000
theorem CDv.ok {i j : Int} (h : CDv i j) : CDivW i j := wide_div (b := 250) h.1 (by have := h.2; have := h.1; omega) (by decide) (by decide)
def CMd (_ j : Int) : Prop := 0 < j
abbrev dFdiv := dInt2 CDv fun i j => i / j
abbrev dMod := dInt2 CMd fun i j => i % j
def CPw (i j : Int) : Prop := 0 ≤ j ∧ j ≤ 1000 ∧ -1000 ≤ i ∧ i ≤ 1000
theorem CPw.ok {i j : Int} (h : CPw i j) : CPow i j := ⟨h.1, by have := h.2.1; omega, by have := h.2.2.1; have := h.2.2.2; omega⟩
def CMl (i j : Int) : Prop := (-18446744073709551616 < i ∧ i < 18446744073709551616) ∨ (-18446744073709551616 < j ∧ j < 18446744073709551616)
theorem CMl.ok {i j : Int} (h : CMl i j) : CMul i j := by unfold CMul; unfold CMl at h; omega
abbrev dPow := dInt2 CPw fun i j => i ^ j.toNat
theorem od_fdiv : OD K cs (rI CDivW fun i j => .int (i / j)) dFdiv := od_int2 fun _ _ h => h.ok
theorem od_mod : OD K cs (rI (fun _ j => 0 < j) fun i j => .int (i % j)) dMod := od_int2 fun _ _ h => h
theorem od_pow : OD K cs (rI CPow fun i j => .int (i ^ j.toNat)) dPow := od_int2 fun _ _ h => h.ok
def dSub : D → D → (D → Prop) → Prop
  | .int i, .int j, Q => Q (.int (i - j))
  | _, _, _ => False
theorem od_sub : OD K cs (rI0 fun i j => .int (i - j)) dSub := by
  intro H Z Q QD x y v w F G za rx ry q k
  cases x <;> cases y <;> first
    | exact False.elim q
    | exact ⟨_, _, rx.1, ry.1, fin_at (d := .int _) k ⟨rfl, rfl⟩ q⟩
abbrev dMul := dInt2 CMl fun i j => i * j
theorem od_mul : OD K cs (rI CMul fun i j => .int (i * j)) dMul := od_int2 fun _ _ h => h.ok
/-- + -/
def rAll4 (K : PySem.W.Frag) : R2 := fun x y H Q => (rI0 fun i j => .int (i + j)) x y H Q ∨ (fun x y H Q => ∃ i j, x = V.str i ∧ y = V.str j ∧ i.length + j.length ≤ sizeLine ∧ Q (.str (i ++ j)) H) x y H Q ∨ rCat x y H Q ∨ rCatT K x y H Q
theorem op_add4 {X : Cx} : OpR X (binaryOp .Add) (rAll4 X.K) := op_add.or (op_add_str.or (op_cat.or op_catT))
def dAdd : D → D → (D → Prop) → Prop
  | .int i, .int j, Q => Q (.int (i + j))
  | .str i, .str j, Q => i.length + j.length ≤ sizeLine ∧ Q (.str (i ++ j))
  | .lst true xs, .lst true ys, Q => noOwnL xs = true ∧ noOwnL ys = true ∧ xs.length + ys.length ≤ sizeLine ∧ Q (.lst true (xs ++ ys))
  | .tup xs, .tup ys, Q => xs ≠ [] ∧ noOwnL xs = true ∧ noOwnL ys = true ∧ xs.length + ys.length ≤ sizeLine ∧ Q (.tup (xs ++ ys))
  | _, _, _ => False
theorem RL.app0 {H : Hp} {Z : Addr → Prop} {d e : List D} {v w : List V} (a : RL K cs H Z d v []) (b : RL K cs H Z e w []) : RL K cs H Z (d ++ e) (v ++ w) [] := RL.app a b
theorem od_add : OD K cs (rAll4 K) dAdd := by
  intro H Z Q QD x y v w F G za rx ry q k
  cases x with
  | int i => cases y <;> first
    | exact False.elim q
    | exact .inl ⟨_, _, rx.1, ry.1, fin_at (d := .int _) k ⟨rfl, rfl⟩ q⟩
  | str i => cases y <;> first
    | exact False.elim q
    | exact .inr (.inl ⟨_, _, rx.1, ry.1, q.1, fin_at (d := .str _) k ⟨rfl, rfl⟩ q.2⟩)
  | lst m xs =>
    cases m with
    | false => cases y <;> exact False.elim q
    | true =>
      cases y with
      | lst m ys =>
        cases m with
        | false => exact False.elim q
        | true =>
          obtain ⟨a, vs, F', e, t, r, rfl⟩ := rx
          obtain ⟨b, ws, G', e2, t2, r2, rfl⟩ := ry
          obtain ⟨n1, n2, l, q⟩ := q
          have h1 := RL.noF0 r n1
          have h2 := RL.noF0 r2 n2
          exact .inr (.inr (.inl ⟨a, b, vs, ws, e, e2, t, t2, by rw [r.len, r2.len]; exact l, fun p hp => fin_lst za k hp (RL.app0 h1 h2) q⟩))
      | _ => exact False.elim q
  | tup xs =>
    cases y with
    | tup ys =>
      obtain ⟨a, vs, e, t, r⟩ := rx
      obtain ⟨b, ws, e2, t2, r2⟩ := ry
      obtain ⟨ne, n1, n2, l, q⟩ := q
      have h1 := RL.noF0 r n1
      have h2 := RL.noF0 r2 n2
      refine .inr (.inr (.inr ⟨a, b, vs, ws, e, e2, t, t2, fun z => ne ?_, by rw [r.len, r2.len]; exact l, fun z => ?_, fun z p hp => fin_tup k hp (RL.app0 h1 h2) q⟩))
      · have := r.len; rw [z] at this; exact List.length_eq_zero_iff.mp this.symm
      · have : ys = [] := by have := r2.len; rw [z] at this; exact List.length_eq_zero_iff.mp this.symm
        subst this
        rw [List.append_nil] at q
        exact fin_at (d := .tup xs) k ⟨a, vs, rfl, t, h1⟩ q
    | _ => exact False.elim q
  | _ => cases y <;> exact False.elim q

/-! ### comparisons of numbers -/
def dCmp (g : Int → Int → Bool) : D → D → (D → Prop) → Prop
  | .int i, .int j, Q => Q (.bl (g i j))
  | _, _, _ => False
theorem od_cmp {g : Int → Int → Bool} : OD K cs (rI0 fun i j => .bl (g i j)) (dCmp g) := by
  intro H Z Q QD x y v w F G za rx ry q k
  cases x <;> cases y <;> first
    | exact False.elim q
    | exact ⟨_, _, rx.1, ry.1, fin_at (d := .bl _) k ⟨rfl, rfl⟩ q⟩
abbrev dLt := dCmp fun i j => decide (i < j)
abbrev dLe := dCmp fun i j => decide (i ≤ j)
abbrev dGt := dCmp fun i j => decide (j < i)
abbrev dGe := dCmp fun i j => decide (j ≤ i)
/-! ### == and != -/
mutual
def toPd : D → PyData
  | .non => .none
  | .bl b => .bool b
  | .int i => .int i
  | .str x => .str x
  | .tup xs => .tuple (toPdL xs)
  | .lst _ xs => .list (toPdL xs)
  | .dic _ _ _ => .none
  | .dit _ _ _ => .none
  | .obj _ _ _ _ => .none
  | .opq => .none
  | .at _ _ => .none
def toPdL : List D → List PyData
  | [] => []
  | x :: xs => toPd x :: toPdL xs
end
mutual
def eqOk : D → Nat → Bool
  | .non, _ => true
  | .bl _, _ => true
  | .int _, _ => true
  | .str x, _ => PyData.strOk x
  | .tup xs, n => match n with
    | 0 => false
    | n + 1 => eqOkL xs n
  | .lst _ xs, n => match n with
    | 0 => false
    | n + 1 => eqOkL xs n
  | .dic _ _ _, _ => false
  | .dit _ _ _, _ => false
  | .obj _ _ _ _, _ => false
  | .opq, _ => false
  | .at _ _, _ => false
def eqOkL : List D → Nat → Bool
  | [], _ => true
  | x :: xs, n => eqOk x n && eqOkL xs n
end
theorem eqOkL_all : ∀ (xs : List D) (n : Nat), eqOkL xs n = xs.all fun d => eqOk d n
  | [], _ => rfl
  | x :: xs, n => by rw [eqOkL, eqOkL_all xs n]; rfl
mutual
theorem eqOk_dp {H : Hp} {Z : Addr → Prop} : ∀ (d : D) (n : Nat) (v : V) (F : List Addr), eqOk d n = true → R K cs H Z d v F → Dp K H v (toPd d) ∧ (toPd d).canLay0 = true ∧ (toPd d).depth ≤ n
  | .non, n, v, F, h, r => by cases r.1; exact ⟨.non, rfl, Nat.zero_le _⟩
  | .bl _, n, v, F, h, r => by cases r.1; exact ⟨.bl _, rfl, Nat.zero_le _⟩
  | .int _, n, v, F, h, r => by cases r.1; exact ⟨.int _, rfl, Nat.zero_le _⟩
  | .str _, n, v, F, h, r => by cases r.1; exact ⟨.str _, h, Nat.zero_le _⟩
  | .tup xs, 0, v, F, h, r => by rw [eqOk] at h; cases h
  | .tup xs, n + 1, v, F, h, r => by
    obtain ⟨a, vs, rfl, t, r⟩ := r
    rw [eqOk] at h
    obtain ⟨h1, h2, h3⟩ := eqOkL_dp xs n vs F h r
    refine ⟨.tup t h1, ?_, ?_⟩
    · show PyData.canLay0 (.tuple (toPdL xs)) = true
      rw [PyData.canLay0]; exact h2
    · show PyData.depth (.tuple (toPdL xs)) ≤ _
      rw [PyData.depth]; omega
  | .lst m xs, 0, v, F, h, r => by rw [eqOk] at h; cases h
  | .lst m xs, n + 1, v, F, h, r => by
    obtain ⟨a, vs, F', rfl, t, r, _⟩ := R.lstv r
    rw [eqOk] at h
    obtain ⟨h1, h2, h3⟩ := eqOkL_dp xs n vs F' h r
    refine ⟨.lst t h1, ?_, ?_⟩
    · show PyData.canLay0 (.list (toPdL xs)) = true
      rw [PyData.canLay0]; exact h2
    · show PyData.depth (.list (toPdL xs)) ≤ _
      rw [PyData.depth]; omega
  | .dic _ _ _, n, v, F, h, r => by rw [eqOk] at h; cases h
  | .dit _ _ _, n, v, F, h, r => by rw [eqOk] at h; cases h
  | .obj _ _ _ _, n, v, F, h, r => by rw [eqOk] at h; cases h
  | .opq, n, v, F, h, r => by rw [eqOk] at h; cases h
  | .at _ _, n, v, F, h, r => by rw [eqOk] at h; cases h
theorem eqOkL_dp {H : Hp} {Z : Addr → Prop} : ∀ (d : List D) (n : Nat) (v : List V) (F : List Addr), eqOkL d n = true → RL K cs H Z d v F → DpAll K H v (toPdL d) ∧ PyData.canLayAll0 (toPdL d) = true ∧ PyData.depthAll (toPdL d) ≤ n
  | [], n, v, F, h, r => by rw [r.1]; exact ⟨.nil, rfl, Nat.zero_le _⟩
  | x :: xs, n, v, F, h, r => by
    obtain ⟨v, vs', F1, F2, rfl, r1, r2, rfl⟩ := r
    rw [eqOkL] at h; simp only [Bool.and_eq_true] at h
    obtain ⟨a1, a2, a3⟩ := eqOk_dp x n v F1 h.1 r1
    obtain ⟨b1, b2, b3⟩ := eqOkL_dp xs n vs' F2 h.2 r2
    refine ⟨.cons a1 b1, ?_, ?_⟩
    · show PyData.canLayAll0 (toPd x :: toPdL xs) = true
      rw [PyData.canLayAll0, a2, b2]; rfl
    · show PyData.depthAll (toPd x :: toPdL xs) ≤ n
      rw [PyData.depthAll]; omega
end
def deq (x y : D) : Bool := PyData.eqv (toPd x) (toPd y)
/-- two scalars of one kind -/
def scalD : D → D → Bool
  | .int _, .int _ => true
  | .str _, .str _ => true
  | .bl _, .bl _ => true
  | _, _ => false
def dEq (neg : Bool) (x y : D) (Q : D → Prop) : Prop := (scalD x y || (eqOk x 60 && eqOk y 60)) = true ∧ Q (.bl (if neg then !deq x y else deq x y))
def rEq2 (K : PySem.W.Frag) : R2 := fun x y H Q => rEq x y H Q ∨ rEqD K x y H Q
def rNe2 (K : PySem.W.Frag) : R2 := fun x y H Q => rNe x y H Q ∨ rNeD K x y H Q
theorem op_eq2 {X : Cx} (hu : X.A.units + 64 < cLine) : OpR X (compareOp .Eq) (rEq2 X.K) := op_eq.or (op_eqD hu)
theorem op_ne2 {X : Cx} (hu : X.A.units + 64 < cLine) : OpR X (compareOp .NotEq) (rNe2 X.K) := op_ne.or (op_neD hu)
theorem deq_scal {H : Hp} {Z : Addr → Prop} {x y : D} {v w : V} {F G : List Addr} (h : scalD x y = true) (rx : R K cs H Z x v F) (ry : R K cs H Z y w G) : scal v w = true ∧ decide (v = w) = deq x y := by
  cases x with
  | int i => cases y with
    | int j => cases rx.1; cases ry.1; exact ⟨rfl, dec_int⟩
    | _ => exact absurd (show false = true from h) Bool.false_ne_true
  | str i => cases y with
    | str j => cases rx.1; cases ry.1; exact ⟨rfl, dec_str⟩
    | _ => exact absurd (show false = true from h) Bool.false_ne_true
  | bl i => cases y with
    | bl j => cases rx.1; cases ry.1; exact ⟨rfl, dec_bl⟩
    | _ => exact absurd (show false = true from h) Bool.false_ne_true
  | _ => cases y <;> exact absurd (show false = true from h) Bool.false_ne_true
theorem shaped_of {d : PyData} (h : d.canLay0 = true) (h2 : d.depth ≤ 60) : SeqAt.shaped d = true := by
  unfold SeqAt.shaped
  rw [h, decide_eq_true (by omega)]; rfl
theorem od_eq : OD K cs (rEq2 K) (dEq false) := by
  intro H Z Q QD x y v w F G za rx ry q k
  obtain ⟨h, q⟩ := q
  rw [Bool.or_eq_true, Bool.and_eq_true] at h
  rcases h with h | ⟨h1, h2⟩
  · obtain ⟨a, b⟩ := deq_scal h rx ry
    exact .inl ⟨a, fin_at (d := .bl _) k ⟨rfl, rfl⟩ (by rw [b]; exact q)⟩
  · obtain ⟨a1, a2, a3⟩ := eqOk_dp x 60 v F h1 rx
    obtain ⟨b1, b2, b3⟩ := eqOk_dp y 60 w G h2 ry
    exact .inr ⟨_, _, a1, b1, shaped_of a2 a3, shaped_of b2 b3, fin_at (d := .bl _) k ⟨rfl, rfl⟩ q⟩
theorem od_ne : OD K cs (rNe2 K) (dEq true) := by
  intro H Z Q QD x y v w F G za rx ry q k
  obtain ⟨h, q⟩ := q
  rw [Bool.or_eq_true, Bool.and_eq_true] at h
  rcases h with h | ⟨h1, h2⟩
  · obtain ⟨a, b⟩ := deq_scal h rx ry
    exact .inl ⟨a, fin_at (d := .bl _) k ⟨rfl, rfl⟩ (by rw [b]; exact q)⟩
  · obtain ⟨a1, a2, a3⟩ := eqOk_dp x 60 v F h1 rx
    obtain ⟨b1, b2, b3⟩ := eqOk_dp y 60 w G h2 ry
    exact .inr ⟨_, _, a1, b1, shaped_of a2 a3, shaped_of b2 b3, fin_at (d := .bl _) k ⟨rfl, rfl⟩ q⟩

/-! ### in -/
def flatD : D → Bool
  | .non => true
  | .bl _ => true
  | .int _ => true
  | .str _ => true
  | _ => false
theorem flat_v {H : Hp} {Z : Addr → Prop} {x : D} {v : V} {F : List Addr} (f : flatD x = true) (r : R K cs H Z x v F) : flatV v = true := by
  cases x <;> first
    | (cases r.1; rfl)
    | exact absurd (show false = true from f) Bool.false_ne_true
theorem eqV_deq {H : Hp} {Z : Addr → Prop} {x y : D} {v w : V} {F G : List Addr} (f : flatD x = true) (g : flatD y = true) (rx : R K cs H Z x v F) (ry : R K cs H Z y w G) : eqV v w = deq x y := by
  cases x <;> first
    | exact absurd (show false = true from f) Bool.false_ne_true
    | (cases y <;> first
        | exact absurd (show false = true from g) Bool.false_ne_true
        | (cases rx.1; cases ry.1; rfl))
theorem flats_v {H : Hp} {Z : Addr → Prop} : ∀ {xs : List D} {vs : List V} {F : List Addr}, xs.all flatD = true → RL K cs H Z xs vs F → vs.all flatV = true
  | [], _, _, _, r => by rw [r.1]; rfl
  | x :: xs, v, F, h, r => by
    obtain ⟨v, vs', F1, F2, rfl, r1, r2, rfl⟩ := r
    rw [List.all_cons, Bool.and_eq_true] at h
    rw [List.all_cons, flat_v h.1 r1, flats_v h.2 r2]; rfl
theorem inV_any {H : Hp} {Z : Addr → Prop} {x : D} {v : V} {G : List Addr} (f : flatD x = true) (rx : R K cs H Z x v G) : ∀ {xs : List D} {vs : List V} {F : List Addr}, xs.all flatD = true → RL K cs H Z xs vs F → inV v vs = xs.any fun d => deq d x
  | [], _, _, _, r => by rw [r.1]; rfl
  | y :: xs, v', F, h, r => by
    obtain ⟨w, vs', F1, F2, rfl, r1, r2, rfl⟩ := r
    rw [List.all_cons, Bool.and_eq_true] at h
    have ih := inV_any f rx h.2 r2
    unfold inV at ih ⊢
    rw [List.any_cons, List.any_cons, ih, eqV_deq h.1 f r1 rx]
/-- a sign, a text within a text -/
def hasS (z x : Str) : Bool := !(Builtin.Str.occurrences z x 0 z.length 1).isEmpty
def dIn (neg : Bool) : D → D → (D → Prop) → Prop
  | x, .lst _ xs, Q => flatD x = true ∧ xs.all flatD = true ∧ Q (.bl (if neg then !(xs.any fun d => deq d x) else xs.any fun d => deq d x))
  | x, .tup xs, Q => flatD x = true ∧ xs.all flatD = true ∧ Q (.bl (if neg then !(xs.any fun d => deq d x) else xs.any fun d => deq d x))
  | .str x, .str z, Q => Q (.bl (if neg then !hasS z x else hasS z x))
  | _, _, _ => False
def rIn2 (K : PySem.W.Frag) (neg : Bool) : R2 := fun x y H Q => rIn K neg x y H Q ∨ ∃ i j, x = .str i ∧ y = .str j ∧ Q (.bl (if neg then !hasS j i else hasS j i)) H
theorem op_in2 {X : Cx} : OpR X (compareOp .In) (rIn2 X.K false) := op_in_seq.or op_in_str
theorem op_nin2 {X : Cx} : OpR X (compareOp .NotIn) (rIn2 X.K true) := op_notIn_seq.or op_notIn_str
theorem od_in {neg : Bool} : OD K cs (rIn2 K neg) (dIn neg) := by
  intro H Z Q QD x y v w F G za rx ry q k
  cases y with
  | lst m ys =>
    have q : flatD x = true ∧ ys.all flatD = true ∧ QD (.bl (if neg then !(ys.any fun d => deq d x) else ys.any fun d => deq d x)) := by cases x <;> exact q
    obtain ⟨f, fs, q⟩ := q
    obtain ⟨a, vs, F', rfl, t, r, _⟩ := R.lstv ry
    refine .inl ⟨a, vs, rfl, .inl t, flat_v f rx, flats_v fs r, fin_at (d := .bl _) k ⟨rfl, rfl⟩ ?_⟩
    rw [inV_any f rx fs r]; exact q
  | tup ys =>
    have q : flatD x = true ∧ ys.all flatD = true ∧ QD (.bl (if neg then !(ys.any fun d => deq d x) else ys.any fun d => deq d x)) := by cases x <;> exact q
    obtain ⟨f, fs, q⟩ := q
    obtain ⟨a, vs, rfl, t, r⟩ := R.tupv ry
    refine .inl ⟨a, vs, rfl, .inr t, flat_v f rx, flats_v fs r, fin_at (d := .bl _) k ⟨rfl, rfl⟩ ?_⟩
    rw [inV_any f rx fs r]; exact q
  | str z =>
    cases x with
    | str x => exact .inr ⟨_, _, rx.1, ry.1, fin_at (d := .bl _) k ⟨rfl, rfl⟩ q⟩
    | _ => exact False.elim q
  | _ => cases x <;> exact False.elim q
end

/-! ### subscripts, slices, attributes -/
section
variable {X : Cx} {cs : Cs} {a b c : Expr} {pos : Pos} {ta tb : TED} {es : List Expr}
def dIx : D → D → (D → Prop) → Prop
  | .lst _ xs, .int i, Q => ∃ d, atI xs i = some d ∧ Q d
  | .tup xs, .int i, Q => ∃ d, atI xs i = some d ∧ Q d
  | .str z, .int i, Q => z.length ≤ sizeLine ∧ ∃ c, atI z.cps.toList i = some c ∧ Q (.str ⟨#[c]⟩)
  | _, _, _ => False
theorem atI_RL {K : PySem.W.Frag} {H : Hp} {Z : Addr → Prop} {xs : List D} {vs : List V} {F : List Addr} {i : Int} {d : D} (r : RL K cs H Z xs vs F) (h : atI xs i = some d) : ∃ v G, atI vs i = some v ∧ R K cs H Z d v G := by
  unfold atI at h ⊢
  rw [r.len]
  cases e : ixN xs.length i with
  | none => rw [e] at h; cases h
  | some j =>
    rw [e] at h
    obtain ⟨v, G, h1, h2, _⟩ := RL.get r (show xs[j]? = some d from h)
    exact ⟨v, G, h1, h2⟩
theorem vp_ix (ha : VP X cs a ta) (hb : VP X cs b tb) (hs : PlainIx b := by first | exact (fun _ _ => rfl) | assumption) : VP X cs (.Subscript a b pos) (op2 dIx ta tb) :=
  ⟨pe_weak (pe_ix ix_seq ha.run hb.run hs) fun σ H Q ⟨e, env, Z, Fs, rl, QD, q, k⟩ => ⟨e, env, Z, Fs, rl, _, q, fun v H1 Z1 d F x1 rv q1 => ⟨e, env, Z1, Fs, rl.ext x1, _, q1, fun w H2 Z2 d2 G x2 rw q2 => by
    have rv := rv.ext x2
    have x := x1.trans x2
    cases d2 with
    | int i =>
      cases d with
      | lst m xs =>
        obtain ⟨y, h, q2⟩ := q2
        obtain ⟨p, vs, F', rfl, t, r, _⟩ := R.lstv rv
        obtain ⟨u, G', h1, h2⟩ := atI_RL r h
        exact .inl ⟨p, vs, i, u, rfl, rw.1, t, h1, k u H2 Z2 y G' x h2 q2⟩
      | tup xs =>
        obtain ⟨y, h, q2⟩ := q2
        obtain ⟨p, vs, rfl, t, r⟩ := R.tupv rv
        obtain ⟨u, G', h1, h2⟩ := atI_RL r h
        exact .inr (.inl ⟨p, vs, i, u, rfl, rw.1, t, h1, k u H2 Z2 y G' x h2 q2⟩)
      | str z =>
        obtain ⟨hz, y, h, q2⟩ := q2
        exact .inr (.inr ⟨z, i, y, rv.1, rw.1, hz, h, k _ H2 Z2 (.str _) [] x ⟨rfl, rfl⟩ q2⟩)
      | _ => exact False.elim q2
    | _ => cases d <;> exact False.elim q2⟩⟩⟩
/-- the slice xs[lo:hi] -/
def cutD {α : Type} (xs : List α) (lo hi : Option Int) : List α := (xs.drop (HT.sIx xs.length 0 lo)).take (HT.sIx xs.length xs.length hi - HT.sIx xs.length 0 lo)
abbrev TOD := Env → (Option Int → Prop) → Prop
structure VO (X : Cx) (cs : Cs) (e : Option Expr) (t : TOD) : Prop where
  run : PO X e (fun σ H Q => ∃ e env Z Fs, Rel X.K cs e H Z σ env Fs ∧ ∃ QD, t env QD ∧ ∀ o H' Z', Ext cs H H' Z Z' → QD o → Q o H')
theorem po_weak {X : Cx} {e : Option Expr} {t t' : TO} (h : PO X e t) (w : ∀ σ H Q, t' σ H Q → t σ H Q) : PO X e t' := ⟨fun pins s σ H Q I q => h.run pins s σ H Q I (w σ H Q q)⟩
def no_ : TOD := fun _ Q => Q none
def po_ (t : TED) : TOD := fun env Q => t env fun d => match d with | .int i => Q (some i) | _ => False
theorem vo_no : VO X cs none no_ := ⟨po_weak po_none fun σ H Q ⟨e, env, Z, Fs, rl, QD, q, k⟩ => k none H Z (Ext.refl H Z) q⟩
theorem vo_some (h : VP X cs a ta) : VO X cs (some a) (po_ ta) := ⟨po_weak (po_some h.run) fun σ H Q ⟨e, env, Z, Fs, rl, QD, q, k⟩ => ⟨e, env, Z, Fs, rl, _, q, fun v H' Z' d F x r z => by
  cases d with
  | int i => exact ⟨i, r.1, k (some i) H' Z' x z⟩
  | _ => exact False.elim z⟩⟩
def dSl : D → Option Int → Option Int → (D → Prop) → Prop
  | .lst _ xs, lo, hi, Q => noOwnL xs = true ∧ Q (.lst true (cutD xs lo hi))
  | .tup xs, lo, hi, Q => noOwnL xs = true ∧ ¬ (HT.sIx xs.length 0 lo = 0 ∧ HT.sIx xs.length xs.length hi = xs.length) ∧ Q (.tup (cutD xs lo hi))
  | .str z, lo, hi, Q => z.length ≤ sizeLine ∧ Q (.str (cutS z lo hi))
  | _, _, _, _ => False
def sl_ (ta : TED) (tl th : TOD) : TED := fun env Q => ta env fun d => tl env fun lo => th env fun hi => dSl d lo hi Q
theorem RL.take {K : PySem.W.Frag} {H : Hp} {Z : Addr → Prop} : ∀ {xs : List D} {vs : List V} (n : Nat), RL K cs H Z xs vs [] → RL K cs H Z (xs.take n) (vs.take n) []
  | [], vs, n, r => by rw [r.1]; simp; exact ⟨rfl, rfl⟩
  | x :: xs, vs, 0, r => ⟨rfl, rfl⟩
  | x :: xs, vs, n + 1, r => by
    obtain ⟨v, vs', F1, F2, rfl, r1, r2, e⟩ := r
    have e := List.append_eq_nil_iff.mp e.symm
    rw [e.1] at r1; rw [e.2] at r2
    exact ⟨v, vs'.take n, [], [], rfl, r1, RL.take n r2, rfl⟩
theorem RL.drop {K : PySem.W.Frag} {H : Hp} {Z : Addr → Prop} : ∀ {xs : List D} {vs : List V} (n : Nat), RL K cs H Z xs vs [] → RL K cs H Z (xs.drop n) (vs.drop n) []
  | [], vs, n, r => by rw [r.1]; simp; exact ⟨rfl, rfl⟩
  | x :: xs, vs, 0, r => r
  | x :: xs, vs, n + 1, r => by
    obtain ⟨v, vs', F1, F2, rfl, r1, r2, e⟩ := r
    have e := List.append_eq_nil_iff.mp e.symm
    rw [e.2] at r2
    exact RL.drop n r2
theorem RL.cut {K : PySem.W.Frag} {H : Hp} {Z : Addr → Prop} {xs : List D} {vs : List V} (lo hi : Option Int) (r : RL K cs H Z xs vs []) : RL K cs H Z (cutD xs lo hi) (cutV vs lo hi) [] := by
  unfold cutD cutV
  rw [r.len]
  exact RL.take _ (RL.drop _ r)
theorem vt_sl {lo hi : Option Expr} {tl th : TOD} {p2 : Pos} (ha : VP X cs a ta) (hl : VO X cs lo tl) (hh : VO X cs hi th) : VT X cs (.Subscript a (.Slice lo hi none p2) pos) (sl_ ta tl th) :=
  ⟨pe_weak (pe_slice (sl_list.or (sl_tup.or sl_str)) ha.run hl.run hh.run) fun σ H Q ⟨e, env, Z, Fs, rl, QD, q, k⟩ => ⟨e, env, Z, Fs, rl, _, q, fun v H1 Z1 d F x1 rv q1 => ⟨e, env, Z1, Fs, rl.ext x1, _, q1, fun lo H2 Z2 x2 q2 =>
    ⟨e, env, Z2, Fs, (rl.ext x1).ext x2, _, q2, fun hi H3 Z3 x3 q3 => by
      have rv := rv.ext (x2.trans x3)
      have x := x1.trans (x2.trans x3)
      have k' : Fin X.K cs H3 Z3 Q QD := fun u H' Z' d F' y r nd fre qd => k u H' Z' d F' (x.trans y) r nd (fun a m => ⟨x.same.free (fre a m).1, (fre a m).2⟩) qd
      have za := (rl.ext x).za
      cases d with
      | lst m xs =>
        obtain ⟨n, q3⟩ := q3
        obtain ⟨p, vs, F', rfl, t, r, _⟩ := R.lstv rv
        exact .inl ⟨p, vs, rfl, t, fun p hp => fin_lst za k' hp (RL.cut lo hi (RL.noF0 r n)) q3⟩
      | tup xs =>
        obtain ⟨n, h, q3⟩ := q3
        obtain ⟨p, vs, rfl, t, r⟩ := R.tupv rv
        exact .inr (.inl ⟨p, vs, rfl, t, by rw [r.len]; exact h, fun p hp => fin_tup k' hp (RL.cut lo hi (RL.noF0 r n)) q3⟩)
      | str z =>
        obtain ⟨n, q3⟩ := q3
        exact .inr (.inr ⟨z, rv.1, n, fin_at (d := .str _) k' ⟨rfl, rfl⟩ q3⟩)
      | _ => exact False.elim q3⟩⟩⟩⟩
/-- e.f -/
def dFld (f : Str) : D → (D → Prop) → Prop
  | .obj _ _ ns vs, Q => ∃ d, (ns.zip vs).lookup f = some d ∧ Q d
  | _, _ => False
theorem lookup_mem {α : Type} {f : Str} {v : α} : ∀ {ns : List Str} {vs : List α}, (ns.zip vs).lookup f = some v → f ∈ ns
  | [], _, h => by simp at h
  | _ :: _, [], h => by simp at h
  | n :: ns, w :: vs, h => by
    rw [List.zip_cons_cons, List.lookup_cons] at h
    cases e : f == n with
    | true => rw [beq_iff_eq] at e; subst e; exact List.mem_cons_self
    | false => rw [e] at h; exact List.mem_cons_of_mem _ (lookup_mem h)
theorem lookup_RL {K : PySem.W.Frag} {H : Hp} {Z : Addr → Prop} {f : Str} {d : D} : ∀ {ns : List Str} {xs : List D} {vs : List V} {F : List Addr}, RL K cs H Z xs vs F → (ns.zip xs).lookup f = some d → ∃ v G, (ns.zip vs).lookup f = some v ∧ R K cs H Z d v G
  | [], _, _, _, _, h => by simp at h
  | _ :: _, [], _, _, _, h => by simp at h
  | n :: ns, x :: xs, vs, F, r, h => by
    obtain ⟨v, vs', F1, F2, rfl, r1, r2, rfl⟩ := r
    rw [List.zip_cons_cons, List.lookup_cons] at h
    rw [List.zip_cons_cons, List.lookup_cons]
    cases e : f == n with
    | true => rw [e] at h; cases h; exact ⟨v, F1, rfl, r1⟩
    | false => rw [e] at h; exact lookup_RL r2 h
theorem R.objv {K : PySem.W.Frag} {H : Hp} {Z : Addr → Prop} {m : Bool} {c : Str} {ns : List Str} {xs : List D} {v : V} {F : List Addr} (h : R K cs H Z (.obj m c ns xs) v F) :
    ∃ a dx ci vs F', v = .ref a ∧ ci ∈ cs ∧ ci.name = c ∧ (∀ n ∈ ns, n ∈ ci.fields) ∧ H a = some (.ins ci.addr dx (ns.zip vs)) ∧ ns.length = xs.length ∧ RL K cs H Z xs vs F' := by
  cases m with
  | true =>
    obtain ⟨a, dx, ci, vs, F', e, m, n, f, t, l, r, rfl⟩ := h
    exact ⟨a, dx, ci, vs, F', e, m, n, f, t, l, r⟩
  | false =>
    obtain ⟨a, dx, ci, vs, e, m, n, f, t, z, l, r, rfl⟩ := h
    exact ⟨a, dx, ci, vs, [], e, m, n, f, t, l, r⟩
theorem vp_fld {f : Str} (hC : CsOk X.K cs) (ha : VP X cs a ta) (hb : attributeBase a f X.env (eval a X.env) = eval a X.env := by rfl) : VP X cs (.Attribute a f pos) (un_ (dFld f) ta) :=
  ⟨pe_weak (pe_fld ha.run hb) fun σ H Q ⟨e, env, Z, Fs, rl, QD, q, k⟩ => ⟨e, env, Z, Fs, rl, _, q, fun v H1 Z1 d F x1 rv q1 => by
    cases d with
    | obj m c ns xs =>
      obtain ⟨d, hl, q1⟩ := q1
      obtain ⟨p, dx, ci, vs, F', rfl, mem, nm, fl, t, l, r⟩ := R.objv rv
      obtain ⟨u, G, h1, h2⟩ := lookup_RL r hl
      exact ⟨p, ci.addr, dx, _, u, rfl, t, (hC ci mem).1, (hC ci mem).2 f (fl f (lookup_mem hl)), h1, k u H1 Z1 d G x1 h2 q1⟩
    | _ => exact False.elim q1⟩⟩

/-! ### built-in calls -/
def CD (K : PySem.W.Frag) (cs : Cs) (r : List V → Hp → VK → Prop) (f : List D → (D → Prop) → Prop) : Prop :=
  ∀ (H : Hp) (Z : Addr → Prop) (Q : VK) (QD : D → Prop) (ds : List D) (vs : List V) (F : List Addr), (∀ a, Z a → ∃ o, H a = some o) → RL K cs H Z ds vs F → f ds QD → Fin K cs H Z Q QD → r vs H Q
def call_ (f : List D → (D → Prop) → Prop) (u : TAD) : TED := fun env Q => u env fun ds => f ds Q
theorem cd_te {K : PySem.W.Frag} {r : List V → Hp → VK → Prop} {f : List D → (D → Prop) → Prop} {u : TAD} (hf : CD K cs r f) : ∀ σ H Q, tOfT K cs (call_ f u) σ H Q → tCB r (tOfA K cs u) σ H Q := fun σ H Q ⟨e, env, Z, Fs, rl, QD, q, k⟩ =>
  ⟨e, env, Z, Fs, rl, _, q, fun vs H1 Z1 ds F x1 rv q1 => hf H1 Z1 Q QD ds vs F (rl.ext x1).za rv q1 fun u H' Z' d F' y r nd fre qd => k u H' Z' d F' (x1.trans y) r nd (fun a m => ⟨x1.same.free (fre a m).1, (fre a m).2⟩) qd⟩
variable {x id T : String} {n : Str} {p : Pos} {r : List V → Hp → VK → Prop} {f : List D → (D → Prop) → Prop} {u : TAD}
theorem vt_callB (hc : CallR X (.builtin id) r) (hf : CD X.K cs r f) (hg : Gl X n) (hm : X.mg n = none) (hv : bootBuiltins n = some (.builtin id)) (ha : VAr X cs (a :: es) u) (hn : n ≠ "__name__" := by decide) (hdb : (n == ("__debug__" : Str)) = false := by decide)
    (he : starEach (a :: es) X.env = (false, eval a X.env) :: starEach es X.env := by rfl) (hpl : (backTo pos (starEach es X.env)).any (·.1) = false := by rfl) : VT X cs (.Call (.Name n p) (a :: es) [] pos) (call_ f u) :=
  ⟨pe_weak (pe_callB hc hg hm hv ha.run hn hdb he hpl) (cd_te hf)⟩
theorem vt_callTy (hc : CallR X (.type T) r) (hf : CD X.K cs r f) (hg : Gl X n) (hm : X.mg n = none) (hv : bootBuiltins n = some (.type T)) (ha : VAr X cs (a :: es) u) (hn : n ≠ "__name__" := by decide) (hdb : (n == ("__debug__" : Str)) = false := by decide)
    (he : starEach (a :: es) X.env = (false, eval a X.env) :: starEach es X.env := by rfl) (hpl : (backTo pos (starEach es X.env)).any (·.1) = false := by rfl) : VT X cs (.Call (.Name n p) (a :: es) [] pos) (call_ f u) :=
  ⟨pe_weak (pe_callTy hc hg hm hv ha.run hn hdb he hpl) (cd_te hf)⟩
/-- calls of one value, of two -/
def one_ (f : D → (D → Prop) → Prop) : List D → (D → Prop) → Prop
  | [x], Q => f x Q
  | _, _ => False
def two_ (f : D → D → (D → Prop) → Prop) : List D → (D → Prop) → Prop
  | [x, y], Q => f x y Q
  | _, _ => False
theorem RL.one1 {K : PySem.W.Frag} {H : Hp} {Z : Addr → Prop} {x : D} {vs : List V} {F : List Addr} (r : RL K cs H Z [x] vs F) : ∃ v, vs = [v] ∧ R K cs H Z x v F := by
  obtain ⟨v, vs', F1, F2, rfl, r1, r2, rfl⟩ := r
  rw [r2.1, r2.2, List.append_nil]
  exact ⟨v, rfl, r1⟩
theorem RL.two {K : PySem.W.Frag} {H : Hp} {Z : Addr → Prop} {x y : D} {vs : List V} {F : List Addr} (r : RL K cs H Z [x, y] vs F) : ∃ v w G1 G2, vs = [v, w] ∧ R K cs H Z x v G1 ∧ R K cs H Z y w G2 := by
  obtain ⟨v, vs', F1, F2, rfl, r1, r2, rfl⟩ := r
  obtain ⟨w, rfl, r3⟩ := RL.one1 r2
  exact ⟨v, w, F1, F2, rfl, r1, r3⟩
theorem cd_one {K : PySem.W.Frag} {r : List V → Hp → VK → Prop} {f : D → (D → Prop) → Prop}
    (h : ∀ (H : Hp) (Z : Addr → Prop) (Q : VK) (QD : D → Prop) (d : D) (v : V) (F : List Addr), (∀ a, Z a → ∃ o, H a = some o) → R K cs H Z d v F → f d QD → Fin K cs H Z Q QD → r [v] H Q) : CD K cs r (one_ f) := by
  intro H Z Q QD ds vs F za rv q k
  cases ds with
  | nil => exact False.elim q
  | cons d t =>
    cases t with
    | cons _ _ => exact False.elim q
    | nil =>
      obtain ⟨v, rfl, rw⟩ := RL.one1 rv
      exact h H Z Q QD d v F za rw q k
def dLen1 : D → (D → Prop) → Prop
  | .lst _ xs, Q => Q (.int xs.length)
  | .tup xs, Q => Q (.int xs.length)
  | .str z, Q => z.length ≤ sizeLine ∧ Q (.int z.length)
  | _, _ => False
abbrev dLen := one_ dLen1
theorem cd_len {K : PySem.W.Frag} : CD K cs (fun xs H Q => ∃ x n, xs = [x] ∧ LenV K x H n ∧ Q (.int n) H) dLen := cd_one fun H Z Q QD d v F za rv q k => by
  cases d with
  | lst m xs =>
    obtain ⟨a, ws, F', rfl, t, r, _⟩ := R.lstv rv
    exact ⟨_, _, rfl, .inl ⟨ws, t, rfl⟩, fin_at (d := .int _) k ⟨rfl, rfl⟩ (by rw [r.len]; exact q)⟩
  | tup xs =>
    obtain ⟨a, ws, rfl, t, r⟩ := R.tupv rv
    exact ⟨_, _, rfl, .inr ⟨ws, t, rfl⟩, fin_at (d := .int _) k ⟨rfl, rfl⟩ (by rw [r.len]; exact q)⟩
  | str z =>
    cases rv.1
    exact ⟨_, _, rfl, ⟨q.1, rfl⟩, fin_at (d := .int _) k ⟨rfl, rfl⟩ q.2⟩
  | _ => exact False.elim q
def dList1 : D → (D → Prop) → Prop
  | .lst _ xs, Q => noOwnL xs = true ∧ Q (.lst true xs)
  | .tup xs, Q => noOwnL xs = true ∧ Q (.lst true xs)
  | _, _ => False
abbrev dList := one_ dList1
theorem cd_list {K : PySem.W.Frag} : CD K cs (fun xs H Q => ∃ p ys, xs = [.ref p] ∧ (SqL K H p ys ∨ SqT K H p ys) ∧ ∀ l, H l = none → Q (.ref l) (upd H l (.lst ys))) dList := cd_one fun H Z Q QD d v F za rv q k => by
  cases d with
  | lst m xs =>
    obtain ⟨a, ws, F', rfl, t, r, _⟩ := R.lstv rv
    exact ⟨_, _, rfl, .inl t, fun l hl => fin_lst za k hl (RL.noF0 r q.1) q.2⟩
  | tup xs =>
    obtain ⟨a, ws, rfl, t, r⟩ := R.tupv rv
    exact ⟨_, _, rfl, .inr t, fun l hl => fin_lst za k hl (RL.noF0 r q.1) q.2⟩
  | _ => exact False.elim q
def dTuple1 : D → (D → Prop) → Prop
  | .lst _ xs, Q => noOwnL xs = true ∧ Q (.tup xs)
  | .tup xs, Q => noOwnL xs = true ∧ Q (.tup xs)
  | _, _ => False
abbrev dTuple := one_ dTuple1
theorem cd_tuple {K : PySem.W.Frag} : CD K cs (fun xs H Q => ∃ p ys, xs = [.ref p] ∧ ((SqL K H p ys ∧ ∀ l, H l = none → Q (.ref l) (upd H l (.tup ys))) ∨ (SqT K H p ys ∧ Q (.ref p) H))) dTuple := cd_one fun H Z Q QD d v F za rv q k => by
  cases d with
  | lst m xs =>
    obtain ⟨a, ws, F', rfl, t, r, _⟩ := R.lstv rv
    exact ⟨_, _, rfl, .inl ⟨t, fun l hl => fin_tup k hl (RL.noF0 r q.1) q.2⟩⟩
  | tup xs =>
    obtain ⟨a, ws, rfl, t, r⟩ := R.tupv rv
    exact ⟨_, _, rfl, .inr ⟨t, fin_at (d := .tup xs) k ⟨a, ws, rfl, t, RL.noF0 r q.1⟩ q.2⟩⟩
  | _ => exact False.elim q
def dI2 (g : Int → Int → Int) : D → D → (D → Prop) → Prop
  | .int i, .int j, Q => Q (.int (g i j))
  | _, _, _ => False
def dToInt1 : D → (D → Prop) → Prop
  | .int i, Q => Q (.int i)
  | .bl b, Q => Q (.int (if b then 1 else 0))
  | _, _ => False
abbrev dToInt := one_ dToInt1
theorem cd_int {K : PySem.W.Frag} : CD K cs (fun xs H Q => (∃ i, xs = [.int i] ∧ Q (.int i) H) ∨ ∃ k, xs = [.bl k] ∧ Q (.int (if k then 1 else 0)) H) dToInt := cd_one fun H Z Q QD d v F za rv q k => by
  cases d with
  | int i => cases rv.1; exact .inl ⟨i, rfl, fin_at (d := .int _) k ⟨rfl, rfl⟩ q⟩
  | bl i => cases rv.1; exact .inr ⟨i, rfl, fin_at (d := .int _) k ⟨rfl, rfl⟩ q⟩
  | _ => exact False.elim q
def dAbs1 : D → (D → Prop) → Prop
  | .int i, Q => Q (.int (if i < 0 then -i else i))
  | _, _ => False
def dStr1 : D → (D → Prop) → Prop
  | .int i, Q => i.natAbs.log2 < 1920 ∧ Q (.str (toString i))
  | _, _ => False
abbrev dStr := one_ dStr1
theorem cd_str {K : PySem.W.Frag} : CD K cs (fun xs H Q => ∃ i, xs = [V.int i] ∧ i.natAbs.log2 < 1920 ∧ Q (.str (toString i)) H) dStr := cd_one fun H Z Q QD d v F za rv q k => by
  cases d with
  | int i => cases rv.1; exact ⟨i, rfl, q.1, fin_at (d := .str _) k ⟨rfl, rfl⟩ q.2⟩
  | _ => exact False.elim q
theorem RL.ints {K : PySem.W.Frag} {H : Hp} {Z : Addr → Prop} : ∀ {ns : List Int} {vs : List V} {F : List Addr}, RL K cs H Z (ns.map .int) vs F → vs = ns.map .int
  | [], _, _, r => r.1
  | n :: ns, vs, F, r => by
    obtain ⟨v, vs', F1, F2, rfl, r1, r2, rfl⟩ := r
    rw [r1.1, RL.ints r2]; rfl
theorem RL.of_ints {K : PySem.W.Frag} {H : Hp} {Z : Addr → Prop} : ∀ (ns : List Int), RL K cs H Z (ns.map .int) (ns.map .int) []
  | [] => ⟨rfl, rfl⟩
  | n :: ns => ⟨_, _, [], [], rfl, ⟨rfl, rfl⟩, RL.of_ints ns, rfl⟩
/-- sorted(a list of ints) -/
def dSorted (ds : List D) (Q : D → Prop) : Prop := ∃ m ns, ds = [.lst m (ns.map .int)] ∧ ∀ ns' : List Int, ns'.Perm ns → ns'.Pairwise (· ≤ ·) → Q (.lst true (ns'.map .int))
theorem cd_sorted {K : PySem.W.Frag} : CD K cs (rSortedI K) dSorted := by
  intro H Z Q QD ds vs F za rv q k
  obtain ⟨m, ns, rfl, q⟩ := q
  obtain ⟨v, rfl, rw⟩ := RL.one1 rv
  obtain ⟨a, ws, F', rfl, t, r, _⟩ := R.lstv rw
  rw [RL.ints r] at t
  exact ⟨a, ns, rfl, t, fun ns' p hp hs hn => fin_lst za k hn (RL.of_ints ns') (q ns' hp hs)⟩
end
end VL
set_option maxHeartbeats 2000000
namespace VL
open PySem L2

/-! ### changes of the state -/
section
variable {K : PySem.W.Frag} {cs : Cs} {e : En} {H H' : Hp} {Z Z' : Addr → Prop} {σ : St} {env : Env} {Fs : Nat → List Addr}
theorem Rel.sets (r : Rel K cs e H Z σ env Fs) {i : Nat} {d : D} {v : V} {F : List Addr} (h : R K cs H Z d v F) (nd : F.Nodup)
    (hF : ∀ a ∈ F, ¬ Z a ∧ (e.W a ∨ e.H0 a = none) ∧ ∀ j, j ≠ i → a ∉ Fs j) (hio : ∀ p ∈ e.io, p.1 ≠ i) : ∃ Fs', Rel K cs e H Z (σ.set i (some v)) (env.set i (some d)) Fs' := by
  by_cases hi : i < env.length
  · refine ⟨fun j => if j = i then F else Fs j, ?_⟩
    have hσ : i < σ.length := by rw [r.len]; exact hi
    refine ⟨fun j x q => ?_, fun j q => ?_, fun j => ?_, fun j k a jk m => ?_, fun j a m => ?_, r.za, fun j a m => ?_, r.fr, r.th, r.tb, r.z0, r.z1, fun p m => ?_, r.gs, by simp [r.len]⟩
    · by_cases e : j = i
      · subst e
        rw [List.getElem?_set_self hi] at q
        cases q
        exact ⟨v, by rw [List.getElem?_set_self hσ], by rw [if_pos rfl]; exact h⟩
      · rw [List.getElem?_set_ne (Ne.symm e)] at q
        obtain ⟨w, h1, h2⟩ := r.slot j x q
        exact ⟨w, by rw [List.getElem?_set_ne (Ne.symm e)]; exact h1, by rw [if_neg e]; exact h2⟩
    · have e : j ≠ i := fun e => q d (by rw [e, List.getElem?_set_self hi])
      show (if j = i then F else Fs j) = []
      rw [if_neg e]
      exact r.off j fun x w => q x (by rw [List.getElem?_set_ne (Ne.symm e)]; exact w)
    · show (if j = i then F else Fs j).Nodup
      by_cases e : j = i
      · rw [if_pos e]; exact nd
      · rw [if_neg e]; exact r.nd j
    · show a ∉ (if k = i then F else Fs k)
      have m : a ∈ (if j = i then F else Fs j) := m
      by_cases e : j = i
      · rw [if_pos e] at m
        have ek : k ≠ i := fun q => jk (e.trans q.symm)
        rw [if_neg ek]
        exact (hF a m).2.2 k ek
      · rw [if_neg e] at m
        by_cases ek : k = i
        · rw [if_pos ek]
          exact fun n => (hF a n).2.2 j e m
        · rw [if_neg ek]; exact r.dj j k a jk m
    · have m : a ∈ (if j = i then F else Fs j) := m
      by_cases e : j = i
      · rw [if_pos e] at m; exact (hF a m).1
      · rw [if_neg e] at m; exact r.dz j a m
    · have m : a ∈ (if j = i then F else Fs j) := m
      by_cases e : j = i
      · rw [if_pos e] at m; exact (hF a m).2.1
      · rw [if_neg e] at m; exact r.own j a m
    · rw [List.getElem?_set_ne (Ne.symm (hio p m))]; exact r.io p m
  · refine ⟨Fs, ?_⟩
    rw [List.set_eq_of_length_le (show σ.length ≤ i by rw [r.len]; omega), List.set_eq_of_length_le (show env.length ≤ i by omega)]
    exact r
/-- a slot is forgotten -/
theorem Rel.wipes (r : Rel K cs e H Z σ env Fs) (i : Nat) (o : Option V) (hio : ∀ p ∈ e.io, p.1 ≠ i) : ∃ Fs', Rel K cs e H Z (σ.set i o) (env.set i none) Fs' ∧ (∀ j, j ≠ i → Fs' j = Fs j) ∧ Fs' i = [] := by
  refine ⟨fun j => if j = i then [] else Fs j, ?_, fun j h => if_neg h, if_pos rfl⟩
  refine ⟨fun j x q => ?_, fun j q => ?_, fun j => ?_, fun j k a jk m => ?_, fun j a m => ?_, r.za, fun j a m => ?_, r.fr, r.th, r.tb, r.z0, r.z1, fun p m => ?_, r.gs, by simp [r.len]⟩
  · by_cases e : j = i
    · subst e
      rw [List.getElem?_set] at q
      simp at q
    · rw [List.getElem?_set_ne (Ne.symm e)] at q
      obtain ⟨w, h1, h2⟩ := r.slot j x q
      exact ⟨w, by rw [List.getElem?_set_ne (Ne.symm e)]; exact h1, by rw [if_neg e]; exact h2⟩
  · show (if j = i then [] else Fs j) = []
    by_cases e : j = i
    · rw [if_pos e]
    · rw [if_neg e]
      exact r.off j fun x w => q x (by rw [List.getElem?_set_ne (Ne.symm e)]; exact w)
  · show (if j = i then [] else Fs j).Nodup
    by_cases e : j = i
    · rw [if_pos e]; exact List.nodup_nil
    · rw [if_neg e]; exact r.nd j
  · show a ∉ (if k = i then [] else Fs k)
    have m : a ∈ (if j = i then [] else Fs j) := m
    by_cases e : j = i
    · rw [if_pos e] at m; cases m
    · rw [if_neg e] at m
      by_cases ek : k = i
      · rw [if_pos ek]; exact fun n => by cases n
      · rw [if_neg ek]; exact r.dj j k a jk m
  · have m : a ∈ (if j = i then [] else Fs j) := m
    by_cases e : j = i
    · rw [if_pos e] at m; cases m
    · rw [if_neg e] at m; exact r.dz j a m
  · have m : a ∈ (if j = i then [] else Fs j) := m
    by_cases e : j = i
    · rw [if_pos e] at m; cases m
    · rw [if_neg e] at m; exact r.own j a m
  · rw [List.getElem?_set_ne (Ne.symm (hio p m))]; exact r.io p m
/-- an object that no slot has is written -/
theorem Rel.writes (r : Rel K cs e H Z σ env Fs) {p : Addr} {o o' : HO} (hp : H p = some o) (mu : Mu o) (hF : ∀ i, p ∉ Fs i) (hz : ¬ Z p) (h0 : e.W p ∨ e.H0 p = none) : Rel K cs e (upd H p o') Z σ env Fs where
  slot := fun i d q => by
    obtain ⟨v, h1, h2⟩ := r.slot i d q
    refine ⟨v, h1, R.keep (fun _ h => h) d v _ (fun a u e _ k => ?_) h2⟩
    rw [upd_ne]
    · exact e
    · intro z
      subst z
      rw [hp] at e; cases e
      rcases k with k | k | k
      · exact hF i k
      · exact hz k
      · exact k mu.mut
  off := r.off
  nd := r.nd
  dj := r.dj
  dz := r.dz
  za := fun a z => by
    obtain ⟨u, q⟩ := r.za a z
    exact ⟨u, by rw [upd_ne (fun w : a = p => hz (by rw [← w]; exact z))]; exact q⟩
  own := r.own
  th := fun a u h => (r.th a u h).imp_right fun ⟨o2, h2⟩ => by
    by_cases ea : a = p
    · rw [ea]; exact ⟨_, upd_same⟩
    · exact ⟨o2, by rw [upd_ne ea]; exact h2⟩
  tb := tabs_keep r.tb fun b u q n => by rw [upd_ne (fun z => by subst z; rw [hp] at q; cases q; exact n mu)]; exact q
  fr := fun a u h nt w => by
    have ne : a ≠ p := fun z => by
      subst z
      rcases h0 with h0 | h0
      · exact w h0
      · rw [h0] at h; cases h
    rw [upd_ne ne]; exact r.fr a u h nt w
  z0 := r.z0
  z1 := r.z1
  io := r.io
  gs := fun q m => R.keep (fun _ h => h) q.1 q.2 _ (fun a u e _ k => by
    rw [upd_ne]
    · exact e
    · intro z
      subst z
      rw [hp] at e; cases e
      rcases k with k | k | k
      · cases k
      · exact hz k
      · exact k mu.mut) (r.gs q m)
  len := r.len
theorem RL.writes {p : Addr} {o o' : HO} {ds : List D} {vs : List V} {F : List Addr} (h : RL K cs H Z ds vs F) (hp : H p = some o) (mu : Mu o) (hF : p ∉ F) (hz : ¬ Z p) : RL K cs (upd H p o') Z ds vs F :=
  RL.keep (fun _ h => h) ds vs F (fun a u e _ k => by
    rw [upd_ne]
    · exact e
    · intro z
      subst z
      rw [hp] at e; cases e
      rcases k with k | k | k
      · exact hF k
      · exact hz k
      · exact k mu.mut) h
theorem Rel.withgs (r : Rel K cs e H Z σ env Fs) {gs : List (D × V)} (h : ∀ p ∈ gs, R K cs H Z p.1 p.2 []) : Rel K cs { e with gs := gs ++ e.gs } H Z σ env Fs :=
  ⟨r.slot, r.off, r.nd, r.dj, r.dz, r.za, r.own, r.fr, r.th, r.tb, r.z0, r.z1, r.io, fun p m => (List.mem_append.mp m).elim (h p) (r.gs p), r.len⟩
theorem Rel.lessgs {gs : List (D × V)} (r : Rel K cs { e with gs := gs ++ e.gs } H Z σ env Fs) : Rel K cs e H Z σ env Fs :=
  ⟨r.slot, r.off, r.nd, r.dj, r.dz, r.za, r.own, r.fr, r.th, r.tb, r.z0, r.z1, r.io, fun p m => r.gs p (List.mem_append_right _ m), r.len⟩
/-- a fresh part is frozen -/
theorem Ext.frz (r : Rel K cs e H Z σ env Fs) {F : List Addr} (x : Ext cs H H' Z Z') (al : ∀ a ∈ F, ∃ o, H' a = some o) (fre : ∀ a ∈ F, H a = none ∧ ¬ Z' a) : Ext cs H H' Z (fun a => Z' a ∨ a ∈ F) := by
  refine ⟨x.same, fun a z => .inl (x.up a z), fun a z => ?_⟩
  rcases z with z | z
  · exact x.new a z
  · exact .inr ⟨(fre a z).1, al a z⟩
end

/-! ### what is walked -/
def ItOk (K : PySem.W.Frag) (cs : Cs) (J : It) (srcs : List (D × V)) (ds : List D) : Prop :=
  ∃ (G : Hp → Prop) (Y : Nat → Hp → V → Hp → Prop), Walk J ds.length G Y ∧ (∀ H Z, (∀ p ∈ srcs, R K cs H Z p.1 p.2 []) → G H) ∧
    ∀ i H Z x H', i < ds.length → (∀ p ∈ srcs, R K cs H Z p.1 p.2 []) → Y i H x H' → Ext cs H H' Z Z ∧ ∃ d, ds[i]? = some d ∧ R K cs H' Z d x []
def tOfI (K : PySem.W.Frag) (cs : Cs) (t : TAD) : TI := fun σ H Rr => ∃ e env Z Fs, Rel K cs e H Z σ env Fs ∧ ∃ QD, t env QD ∧
  ∀ J H' Z' srcs ds, Ext cs H H' Z Z' → (∀ p ∈ srcs, R K cs H' Z' p.1 p.2 []) → ItOk K cs J srcs ds → QD ds → Rr J H'
structure VI (X : Cx) (cs : Cs) (tg iter : Expr) (t : TAD) : Prop where
  run : PI X tg iter (tOfI X.K cs t)
theorem pi_weak {X : Cx} {tg e : Expr} {t t' : TI} (h : PI X tg e t) (w : ∀ σ H Q, t' σ H Q → t σ H Q) : PI X tg e t' := ⟨fun pins s σ H Q I q => h.run pins s σ H Q I (w σ H Q q)⟩
section
variable {X : Cx} {cs : Cs} {tg a b c : Expr} {pos : Pos} {ta tb : TED}
theorem itl_ok {pins : List (Addr × Obj)} {σ : St} {H : Hp} {s : Shared} {Rr : It → Hp → Prop} {p : Addr} {xs : List V} (I : Inv X pins σ H s) (hq : SqL X.K H p xs) (q : Rr (Itl X.K p) H) :
    wpAny (model X.prog X.w) X.A (pyIter (.ref p)) (PIE X pins σ tg Rr) X.xe s := by
  obtain ⟨its, rv, pl, hz⟩ := I.list hq
  exact wpAny_pyIter_list pl.isList (pi_one (tk := s.toks) I _ (turn_list p _) ⟨_, Heap.get?_push_size _ rfl, rfl, rfl⟩ q)
theorem itt_ok {pins : List (Addr × Obj)} {σ : St} {H : Hp} {s : Shared} {Rr : It → Hp → Prop} {p : Addr} {xs : List V} (I : Inv X pins σ H s) (hq : SqT X.K H p xs) (q : Rr (Itt X.K p) H) :
    wpAny (model X.prog X.w) X.A (pyIter (.ref p)) (PIE X pins σ tg Rr) X.xe s := by
  obtain ⟨its, rv, pl, hz⟩ := I.tuple hq
  exact wpAny_pyIter_tuple (show s.heap.IsTuple p its.toArray from pl) (pi_one (tk := s.toks) I _ (turn_tuple p _) ⟨_, Heap.get?_push_size _ rfl, rfl, rfl⟩ q)
theorem its_ok {pins : List (Addr × Obj)} {σ : St} {H : Hp} {s : Shared} {Rr : It → Hp → Prop} {z : Str} {t : Tok} (I : Inv X pins σ H s) (q : Rr (Its z) H) :
    wpAny (model X.prog X.w) X.A (pyIter (.str z t)) (PIE X pins σ tg Rr) X.xe s := by
  by_cases hw : z.cps.all (· < 128) = true
  · exact wpAny_pyIter_ascii hw (pi_one (tk := s.toks) I _ (turn_str _ z t _ (.inl rfl)) ⟨_, Heap.get?_push_size _ rfl, rfl, rfl⟩ q)
  · exact wpAny_pyIter_wide (Bool.not_eq_true _ ▸ hw) (pi_one (tk := s.toks) I _ (turn_str _ z t _ (.inr rfl)) ⟨_, Heap.get?_push_size _ rfl, rfl, rfl⟩ q)
def signsD (z : Str) : List D := z.cps.toList.map fun c => .str ⟨#[c]⟩
def seqD : D → (List D → Prop) → Prop
  | .lst _ xs, Q => Q (frzL xs)
  | .tup xs, Q => Q (frzL xs)
  | .str z, Q => Q (signsD z)
  | _, _ => False
def it_ (ta : TED) : TAD := fun env Q => ta env fun d => seqD d Q
theorem itok_src {K : PySem.W.Frag} {J : It} {G : Hp → Prop} {Y : Nat → Hp → V → Hp → Prop} {d : D} {v : V} {ds : List D} {vs : List V} (w : Walk J ds.length G Y)
    (hG : ∀ H Z, R K cs H Z d v [] → G H ∧ ∀ i H' x, Y i H x H' → H' = H ∧ ∃ d', ds[i]? = some d' ∧ R K cs H Z d' x []) : ItOk K cs J [(d, v)] ds := by
  refine ⟨G, Y, w, fun H Z q => (hG H Z (q (d, v) (by simp))).1, fun i H Z x H' hi q y => ?_⟩
  obtain ⟨rfl, d', h1, h2⟩ := (hG H Z (q (d, v) (by simp))).2 i H' x y
  exact ⟨Ext.refl _ _, d', h1, h2⟩
theorem vi_seq (ha : VT X cs a ta) : VI X cs tg a (it_ ta) := by
  refine ⟨⟨fun pins s σ H Rr I h => ?_⟩⟩
  obtain ⟨e, env, Z, Fs, rl, QD, q, k⟩ := h
  refine thn (ha.run.run pins s σ H (fun v H1 => ∃ Z1 d F, Ext cs H H1 Z Z1 ∧ R X.K cs H1 Z1 d v F ∧ (∀ a ∈ F, H a = none ∧ ¬ Z1 a) ∧ seqD d QD) I ⟨e, env, Z, Fs, rl, _, q, fun v H1 Z1 d F x r _ fre z => ⟨Z1, d, F, x, r, fre, z⟩⟩) fun v s1 ⟨x, H1, I1, r1, Z1, d, F, ex, r, fre, z⟩ => ?_
  have al := R.alloc d x F r
  have ex2 := Ext.frz rl ex al fre
  have rf : R X.K cs H1 (fun a => Z1 a ∨ a ∈ F) (frz d) x [] := R.fr (fun _ h => .inl h) d x F (fun _ m => .inr m) r
  cases d with
  | lst m xs =>
    obtain ⟨p, vs, F', rfl, t, rr, _⟩ := R.lstv rf
    cases r1
    refine itl_ok I1 t (k _ H1 _ [(frz (.lst m xs), .ref p)] (frzL xs) ex2 (fun q mq => ?_) (itok_src (vs := vs) (G := fun H => ∃ ys, ys.length = xs.length ∧ SqL X.K H p ys) (Y := fun i H x H' => H' = H ∧ ∃ ys, SqL X.K H p ys ∧ ys.length = xs.length ∧ ∀ ys, SqL X.K H p ys → ys[i]? = some x) ?_ fun H Z q => ?_) z)
    · have e : q = (frz (.lst m xs), .ref p) := by simpa using mq
      rw [e]; exact rf
    · rw [frzL_map, List.length_map]
      refine ⟨fun i H hi ⟨ys, l, q⟩ => ⟨ys, ys[i]'(by omega), q, by simp [show i < ys.length by omega]⟩, fun H ⟨ys, l, q⟩ => ⟨ys, q, by omega⟩, fun i H x H' hi ⟨ys, l, q⟩ y => ⟨y.1, ys, q, l, y.2⟩⟩
    · obtain ⟨p', ws, F'', e', t', r', _⟩ := R.lstv q
      cases e'
      have l' : ws.length = xs.length := by rw [r'.len, frzL_map, List.length_map]
      refine ⟨⟨ws, l', t'⟩, fun i H' x ⟨e1, ys, h1, h2, h3⟩ => ⟨e1, ?_⟩⟩
      have hx := h3 ws t'
      have hi : i < (frzL xs).length := by rw [← r'.len]; exact (List.getElem?_eq_some_iff.mp hx).1
      refine ⟨(frzL xs)[i], by simp [hi], ?_⟩
      have n0 : RL X.K cs H Z (frzL xs) ws [] := RL.noF0 r' (frzL_noOwn xs)
      exact RL.get0 n0 (by simp [hi]) hx
  | tup xs =>
    obtain ⟨p, vs, rfl, t, rr⟩ := R.tupv rf
    cases r1
    refine itt_ok I1 t (k _ H1 _ [(frz (.tup xs), .ref p)] (frzL xs) ex2 (fun q mq => ?_) (itok_src (vs := vs) (G := fun H => ∃ ys, ys.length = xs.length ∧ SqT X.K H p ys) (Y := fun i H x H' => H' = H ∧ ∃ ys, SqT X.K H p ys ∧ ys.length = xs.length ∧ ∀ ys, SqT X.K H p ys → ys[i]? = some x) ?_ fun H Z q => ?_) z)
    · have e : q = (frz (.tup xs), .ref p) := by simpa using mq
      rw [e]; exact rf
    · rw [frzL_map, List.length_map]
      refine ⟨fun i H hi ⟨ys, l, q⟩ => ⟨ys, ys[i]'(by omega), q, by simp [show i < ys.length by omega]⟩, fun H ⟨ys, l, q⟩ => ⟨ys, q, by omega⟩, fun i H x H' hi ⟨ys, l, q⟩ y => ⟨y.1, ys, q, l, y.2⟩⟩
    · obtain ⟨p', ws, e', t', r'⟩ := R.tupv q
      cases e'
      have l' : ws.length = xs.length := by rw [r'.len, frzL_map, List.length_map]
      refine ⟨⟨ws, l', t'⟩, fun i H' x ⟨e1, ys, h1, h2, h3⟩ => ⟨e1, ?_⟩⟩
      have hx := h3 ws t'
      have hi : i < (frzL xs).length := by rw [← r'.len]; exact (List.getElem?_eq_some_iff.mp hx).1
      refine ⟨(frzL xs)[i], by simp [hi], ?_⟩
      exact RL.get0 r' (by simp [hi]) hx
  | str z0 =>
    have e1 : x = .str z0 := r.1
    subst e1
    obtain ⟨t, rfl⟩ := r1
    refine its_ok I1 (k _ H1 Z1 [] (signsD z0) ex (fun q m => by cases m) ⟨fun _ => True, _, (by unfold signsD; rw [List.length_map, Array.length_toList]; exact walk_str), fun _ _ _ => trivial, fun i H Z x H' hi _ y => ?_⟩ z)
    obtain ⟨rfl, c, h1, rfl⟩ := y
    exact ⟨Ext.refl _ _, .str ⟨#[c]⟩, by unfold signsD; simp [h1], ⟨rfl, rfl⟩⟩
  | _ => exact False.elim z
/-- range -/
def rngD (lo : Int) (n : Nat) : List D := (List.range n).map fun i => .int (lo + (i : Nat))
def rng1_ (u : TAD) : TAD := fun env Q => u env fun ds => one_ (fun d _ => match d with | .int j => -(2 ^ 62) ≤ j ∧ j < 2 ^ 62 ∧ Q (rngD 0 j.toNat) | _ => False) ds fun _ => True
def rng2_ (u : TAD) : TAD := fun env Q => u env fun ds => two_ (fun d e _ => match d, e with | .int i, .int j => (-(2 ^ 62) ≤ i ∧ i < 2 ^ 62 ∧ -(2 ^ 62) ≤ j ∧ j < 2 ^ 62) ∧ Q (rngD i (j - i).toNat) | _, _ => False) ds fun _ => True
theorem itok_rng {K : PySem.W.Frag} {lo : Int} {n : Nat} : ItOk K cs (Itr lo n) [] (rngD lo n) := by
  refine ⟨fun _ => True, _, (by unfold rngD; rw [List.length_map, List.length_range]; exact walk_range), fun _ _ _ => trivial, fun i H Z x H' hi _ y => ?_⟩
  obtain ⟨rfl, rfl⟩ := y
  have hi' : i < n := by unfold rngD at hi; rw [List.length_map, List.length_range] at hi; exact hi
  exact ⟨Ext.refl _ _, .int (lo + i), by unfold rngD; simp [hi'], ⟨rfl, rfl⟩⟩
theorem vi_rng1 {u : TAD} {p : Pos} (hg : Gl X "range") (hm : X.mg "range" = none) (ha : VAr X cs [a] u) (hs : starEach [a] X.env = [(false, eval a X.env)] := by rfl) : VI X cs tg (.Call (.Name "range" p) [a] [] pos) (rng1_ u) :=
  ⟨pi_weak (pi_range1 hg hm ha.run hs) fun σ H Q ⟨e, env, Z, Fs, rl, QD, q, k⟩ => ⟨e, env, Z, Fs, rl, _, q, fun vs H1 Z1 ds F x1 rv q1 => by
    cases ds with
    | nil => exact False.elim q1
    | cons d t =>
      cases t with
      | cons _ _ => exact False.elim q1
      | nil =>
        obtain ⟨v, rfl, rv'⟩ := RL.one1 rv
        cases d with
        | int j =>
          obtain ⟨h1, h2, q1⟩ := q1
          cases rv'.1
          exact ⟨j, rfl, h1, h2, k _ H1 Z1 [] _ x1 (fun p m => by cases m) itok_rng q1⟩
        | _ => exact False.elim q1⟩⟩
theorem vi_rng2 {u : TAD} {p : Pos} (hg : Gl X "range") (hm : X.mg "range" = none) (ha : VAr X cs [a, b] u) (hs : starEach [a, b] X.env = [(false, eval a X.env), (false, eval b X.env)] := by rfl) (hs2 : starEach [b] X.env = [(false, eval b X.env)] := by rfl) :
    VI X cs tg (.Call (.Name "range" p) [a, b] [] pos) (rng2_ u) :=
  ⟨pi_weak (pi_range2 hg hm ha.run hs hs2) fun σ H Q ⟨e, env, Z, Fs, rl, QD, q, k⟩ => ⟨e, env, Z, Fs, rl, _, q, fun vs H1 Z1 ds F x1 rv q1 => by
    cases ds with
    | nil => exact False.elim q1
    | cons d t =>
      cases t with
      | nil => exact False.elim q1
      | cons d2 t =>
        cases t with
        | cons _ _ => exact False.elim q1
        | nil =>
          obtain ⟨v, w, G1, G2, rfl, r1, r2⟩ := RL.two rv
          cases d with
          | int i =>
            cases d2 with
            | int j =>
              obtain ⟨h1, q1⟩ := q1
              cases r1.1; cases r2.1
              exact ⟨i, j, rfl, h1, k _ H1 Z1 [] _ x1 (fun p m => by cases m) itok_rng q1⟩
            | _ => exact False.elim q1
          | _ => exact False.elim q1⟩⟩
end

/-! ### statements -/
structure EndsOk (K : PySem.W.Frag) (cs : Cs) (e : En) (E : EndsD) (Dh : Ends) : Prop where
  nx : ∀ σ H Z env Fs, Rel K cs e H Z σ env Fs → E.nx env → Dh.nx σ H
  bk : ∀ σ H Z env Fs, Rel K cs e H Z σ env Fs → E.bk env → Dh.bk σ H
  ct : ∀ σ H Z env Fs, Rel K cs e H Z σ env Fs → E.ct env → Dh.ct σ H
  rt : ∀ v σ H Z env Fs r F, Rel K cs e H Z σ env Fs → R K cs H Z r v F → F.Nodup → (∀ a ∈ F, ¬ Z a ∧ (e.W a ∨ e.H0 a = none) ∧ ∀ i, a ∉ Fs i) → E.rt r env → Dh.rt v H
def tSOf (K : PySem.W.Frag) (cs : Cs) (e : En) (t : TSD) : TS := fun Dh σ H => ∃ env Z Fs E, Rel K cs e H Z σ env Fs ∧ t E env ∧ EndsOk K cs e E Dh
structure VS (X : Cx) (cs : Cs) (L : List Nat) (st : Stmt) (t : TSD) : Prop where
  run : ∀ e : En, (∀ p ∈ e.io, p.1 ∈ L) → PS X st (tSOf X.K cs e t)
structure VSs (X : Cx) (cs : Cs) (L : List Nat) (st : List Stmt) (t : TSD) : Prop where
  run : ∀ e : En, (∀ p ∈ e.io, p.1 ∈ L) → PSs X st (tSOf X.K cs e t)
section
variable {X : Cx} {cs : Cs} {L : List Nat} {a b c : Expr} {pos : Pos} {ta tb : TED} {st : Stmt} {sts body : List Stmt} {t u : TSD}
def nx_ : TSD := fun E env => E.nx env
def sq_ (t u : TSD) : TSD := fun E env => ∃ Rr : Env → Prop, t { E with nx := Rr } env ∧ ∀ env', Rr env' → u E env'
theorem vss_nil : VSs X cs L [] nx_ := ⟨fun e _ => pss_weak pss_nil fun D σ H ⟨env, Z, Fs, E, rl, q, ok⟩ => ok.nx σ H Z env Fs rl q⟩
theorem vss_cons (h1 : VS X cs L st t) (h2 : VSs X cs L sts u) : VSs X cs L (st :: sts) (sq_ t u) :=
  ⟨fun e hL => pss_weak (pss_cons (h1.run e hL) (h2.run e hL)) fun D σ H ⟨env, Z, Fs, E, rl, ⟨Rr, q1, q2⟩, ok⟩ =>
    ⟨env, Z, Fs, { E with nx := Rr }, rl, q1, fun σ' H' Z' env' Fs' rl' h => ⟨env', Z', Fs', E, rl', q2 env' h, ok⟩, ok.bk, ok.ct, ok.rt⟩⟩
theorem vss_one (h1 : VS X cs L st t) : VSs X cs L [st] t := ⟨fun e hL => pss_one (h1.run e hL)⟩
def bk_ : TSD := fun E env => E.bk env
def ct_ : TSD := fun E env => E.ct env
def ifs_ (c : TTD) (t u : TSD) : TSD := fun E env => c env fun b => (b = true → t E env) ∧ (b = false → u E env)
theorem vs_if {tc : TTD} {s1 s2 : List Stmt} (hc : VB X cs c tc) (ha : VSs X cs L s1 t) (hb : VSs X cs L s2 u) : VS X cs L (.If c s1 s2 pos) (ifs_ tc t u) :=
  ⟨fun e hL => ps_weak (ps_if hc.run (ha.run e hL) (hb.run e hL)) fun D σ H ⟨env, Z, Fs, E, rl, q, ok⟩ => ⟨e, env, Z, Fs, rl, _, q, fun b H' Z' x z => by
    cases b with
    | true => rw [if_pos rfl]; exact ⟨env, Z', Fs, E, rl.ext x, z.1 rfl, ok⟩
    | false => rw [if_neg Bool.false_ne_true]; exact ⟨env, Z', Fs, E, rl.ext x, z.2 rfl, ok⟩⟩⟩
def ex_ (ta : TED) : TSD := fun E env => ta env fun _ => E.nx env
def set_ (i : Nat) (ta : TED) : TSD := fun E env => ta env fun d => E.nx (env.set i (some d))
theorem Rel.put {e : En} {H H' : Hp} {Z Z' : Addr → Prop} {σ : St} {env : Env} {Fs : Nat → List Addr} {d : D} {v : V} {F : List Addr} {K : PySem.W.Frag} (rl : Rel K cs e H Z σ env Fs) (x : Ext cs H H' Z Z') (r : R K cs H' Z' d v F) (nd : F.Nodup) (fre : ∀ a ∈ F, H a = none ∧ ¬ Z' a)
    (i : Nat) (hio : ∀ p ∈ e.io, p.1 ≠ i) : ∃ Fs', Rel K cs e H' Z' (σ.set i (some v)) (env.set i (some d)) Fs' :=
  (rl.ext x).sets r nd (fun a m => ⟨(fre a m).2, rl.free0 (fre a m).1, fun j _ w => by
    obtain ⟨o, q⟩ := rl.alloc w
    rw [(fre a m).1] at q; cases q⟩) hio
theorem vs_set (i : Nat) {x : Str} {pos' : Pos} (ha : VT X cs a ta) (hN : X.N.Nodup) (hi : X.N[i]? = some x := by rfl) (hx : Loc X.env.scope x := by first | exact .inl rfl | exact .inr rfl) (hL : i ∉ L := by decide) (hs : swapsWith a (some (.Name x pos')) pos.line X.env = pure false := by rfl)
    (hf : X.fn x = true ∨ X.env.scope.names.lookup x = some .local := by first | exact .inl rfl | exact .inr rfl | assumption) : VS X cs L (.Assign [.Name x pos'] a pos) (set_ i ta) :=
  ⟨fun e hl => ps_weak (ps_set hN hi hx ha.run hs hf) fun D σ H ⟨env, Z, Fs, E, rl, q, ok⟩ => ⟨e, env, Z, Fs, rl, _, q, fun v H' Z' d F x r nd fre z => by
    obtain ⟨Fs', rl'⟩ := rl.put x r nd fre i fun p m w => hL (w ▸ hl p m)
    exact ok.nx _ H' Z' _ Fs' rl' z⟩⟩
def ret_ (ta : TED) : TSD := fun E env => ta env fun d => E.rt d env
theorem vs_ret (ha : VT X cs a ta) : VS X cs L (.Return (some a) pos) (ret_ ta) :=
  ⟨fun e hl => ps_weak (ps_ret ha.run) fun D σ H ⟨env, Z, Fs, E, rl, q, ok⟩ => ⟨e, env, Z, Fs, rl, _, q, fun v H' Z' d F x r nd fre z =>
    ok.rt v σ H' Z' env Fs d F (rl.ext x) r nd (fun a m => ⟨(fre a m).2, rl.free0 (fre a m).1, fun j w => by
      obtain ⟨o, q⟩ := rl.alloc w
      rw [(fre a m).1] at q; cases q⟩) z⟩⟩
def retn_ : TSD := fun E env => E.rt .non env
/-- return of names and fresh values in a tuple or a list: the names are handed away -/
def wipeD (env : Env) : List Nat → Env
  | [] => env
  | i :: is => (wipeD env is).set i none
theorem Rel.wipeAll {K : PySem.W.Frag} {e : En} {H : Hp} {Z : Addr → Prop} {σ : St} {env : Env} {Fs : Nat → List Addr} (r : Rel K cs e H Z σ env Fs) : ∀ (mv : List Nat), (∀ p ∈ e.io, p.1 ∉ mv) →
    ∃ Fs' σ', Rel K cs e H Z σ' (wipeD env mv) Fs' ∧ ∀ j, if j ∈ mv then Fs' j = [] else Fs' j = Fs j
  | [], _ => ⟨Fs, σ, r, fun j => by rw [if_neg (by simp)]⟩
  | i :: is, h => by
    obtain ⟨F1, σ1, r1, h1⟩ := Rel.wipeAll r is fun p m w => h p m (List.mem_cons_of_mem _ w)
    obtain ⟨F2, r2, h2, h3⟩ := r1.wipes i (none : Option V) fun p m w => h p m (by rw [w]; exact List.mem_cons_self)
    refine ⟨F2, _, r2, fun j => ?_⟩
    by_cases e : j = i
    · subst e
      rw [if_pos (by simp)]; exact h3
    · have h1j := h1 j
      rw [h2 j e]
      by_cases m : j ∈ is
      · rw [if_pos m] at h1j; rw [if_pos (by simp [m])]; exact h1j
      · rw [if_neg m] at h1j; rw [if_neg (by simp [m, e])]; exact h1j
def retm_ (f : List D → D) (mv : List Nat) (u : TAD) : TSD := fun E env => u env fun ds => ds.length ≤ sizeLine ∧ E.rt (f ds) (wipeD env mv)
theorem mv_free {K : PySem.W.Frag} {e : En} {H : Hp} {Z Z' : Addr → Prop} {σ : St} {env : Env} {Fs Fs' : Nat → List Addr} {F : List Addr} {mv : List Nat} (rl : Rel K cs e H Z σ env Fs) (h : ∀ j, if j ∈ mv then Fs' j = [] else Fs' j = Fs j)
    (fre : ∀ a ∈ F, ¬ Z' a ∧ (H a = none ∨ ∃ i ∈ mv, a ∈ Fs i)) : ∀ a ∈ F, ¬ Z' a ∧ (e.W a ∨ e.H0 a = none) ∧ ∀ j, a ∉ Fs' j := fun a m => by
  refine ⟨(fre a m).1, ?_, fun j w => ?_⟩
  · rcases (fre a m).2 with z | ⟨i, _, z⟩
    · exact rl.free0 z
    · exact rl.own i a z
  · have hj := h j
    by_cases mj : j ∈ mv
    · rw [if_pos mj] at hj; rw [hj] at w; cases w
    · rw [if_neg mj] at hj; rw [hj] at w
      rcases (fre a m).2 with z | ⟨i, mi, z⟩
      · obtain ⟨o, q⟩ := rl.alloc w
        rw [z] at q; cases q
      · exact rl.dj i j a (fun q => mj (q ▸ mi)) z w
theorem vs_rettup {es : List Expr} {mv : List Nat} {u : TAD} {k0 : Nat} {tp : Pos} (h : VM X cs mv es u) (hL : ∀ i ∈ mv, i ∉ L := by decide) : VS X cs L (.Return (some (.Tuple es k0 tp)) pos) (retm_ .tup mv u) :=
  ⟨fun e hl => ps_weak (ps_ret (pe_tup h.run)) fun D σ H ⟨env, Z, Fs, E, rl, q, ok⟩ => ⟨e, env, Z, Fs, rl, _, q, fun vs H' Z' ds F x r nd fre z => ⟨by rw [r.len]; exact z.1, fun p hp => by
    have x2 : Ext cs H' (upd H' p (.tup vs)) Z' Z' := Ext.of (same_upd hp)
    obtain ⟨Fs', σ', rl', h'⟩ := Rel.wipeAll ((rl.ext x).ext x2) mv fun p m w => hL _ w (hl p m)
    exact ok.rt _ σ' _ Z' _ Fs' (.tup ds) F rl' (fresh_tup hp r) nd (mv_free rl h' fre) z.2⟩⟩⟩
/-- return of a name -/
def retv_ (i : Nat) : TSD := fun E env => ∃ d, env[i]? = some (some d) ∧ E.rt d (env.set i none)
theorem vs_retv (i : Nat) {x : Str} {p : Pos} (hN : X.N[i]? = some x := by rfl) (hL : i ∉ L := by decide) (hv : Vis X.env.scope x := by first | exact Or.inl rfl | exact Or.inr (Or.inl rfl) | exact Or.inr (Or.inr rfl)) (hd : (x == ("__debug__" : Str)) = false := by decide)
    (hcd : (x == ("__classdict__" : Str)) = false := by decide) : VS X cs L (.Return (some (.Name x p)) pos) (retv_ i) :=
  ⟨fun e hl => ps_weak (ps_ret (pe_var hN hv hd hcd)) fun D σ H ⟨env, Z, Fs, E, rl, ⟨d, hd, q⟩, ok⟩ => by
    obtain ⟨v, h1, h2⟩ := rl.slot i d hd
    obtain ⟨Fs', rl', h3, h4⟩ := rl.wipes i (none : Option V) fun p m w => hL (w ▸ hl p m)
    refine ⟨v, h1, ok.rt v _ H Z _ Fs' d (Fs i) rl' h2 (rl.nd i) (fun a m => ⟨rl.dz i a m, rl.own i a m, fun j w => ?_⟩) q⟩
    by_cases e : j = i
    · rw [e, h4] at w; cases w
    · rw [h3 j e] at w; exact rl.dj i j a (Ne.symm e) m w⟩
/-- a slot's datum is frozen (a step of the proof alone) -/
def frz_ (i : Nat) (t : TSD) : TSD := fun E env => ∃ d, env[i]? = some (some d) ∧ t E (env.set i (some (frz d)))
theorem Rel.freeze0 {K : PySem.W.Frag} {e : En} {H : Hp} {Z : Addr → Prop} {σ : St} {env : Env} {Fs : Nat → List Addr} {i : Nat} {d : D} (r : Rel K cs e H Z σ env Fs) (hd : env[i]? = some (some d)) :
    ∃ Fs', Rel K cs e H (fun a => Z a ∨ a ∈ Fs i) σ (env.set i (some (frz d))) Fs' := by
  have hi : i < env.length := (List.getElem?_eq_some_iff.mp hd).1
  obtain ⟨v, hv, rv⟩ := r.slot i d hd
  refine ⟨fun j => if j = i then [] else Fs j, ?_⟩
  refine ⟨fun j x q => ?_, fun j q => ?_, fun j => ?_, fun j k a jk m => ?_, fun j a m => ?_, fun a z => ?_, fun j a m => ?_, r.fr, r.th, r.tb, fun a z => .inl (r.z0 a z), fun a z => ?_, r.io, fun p m => R.keep (fun _ h => .inl h) _ _ _ (fun a o e _ _ => e) (r.gs p m), by simp [r.len]⟩
  · by_cases e : j = i
    · subst e
      rw [List.getElem?_set_self hi] at q
      cases q
      exact ⟨v, hv, by rw [if_pos rfl]; exact R.fr (fun _ h => .inl h) d v _ (fun _ m => .inr m) rv⟩
    · rw [List.getElem?_set_ne (Ne.symm e)] at q
      obtain ⟨w, h1, h2⟩ := r.slot j x q
      exact ⟨w, h1, by rw [if_neg e]; exact R.keep (fun _ h => .inl h) _ _ _ (fun a o e _ _ => e) h2⟩
  · show (if j = i then [] else Fs j) = []
    by_cases e : j = i
    · rw [if_pos e]
    · rw [if_neg e]
      exact r.off j fun x w => q x (by rw [List.getElem?_set_ne (Ne.symm e)]; exact w)
  · show (if j = i then [] else Fs j).Nodup
    by_cases e : j = i
    · rw [if_pos e]; exact List.nodup_nil
    · rw [if_neg e]; exact r.nd j
  · show a ∉ (if k = i then [] else Fs k)
    have m : a ∈ (if j = i then [] else Fs j) := m
    by_cases e : j = i
    · rw [if_pos e] at m; cases m
    · rw [if_neg e] at m
      by_cases ek : k = i
      · rw [if_pos ek]; exact fun n => by cases n
      · rw [if_neg ek]; exact r.dj j k a jk m
  · have m : a ∈ (if j = i then [] else Fs j) := m
    by_cases e : j = i
    · rw [if_pos e] at m; cases m
    · rw [if_neg e] at m
      intro z
      rcases z with z | z
      · exact r.dz j a m z
      · exact r.dj j i a e m z
  · rcases z with z | z
    · exact r.za a z
    · exact r.alloc z
  · have m : a ∈ (if j = i then [] else Fs j) := m
    by_cases e : j = i
    · rw [if_pos e] at m; cases m
    · rw [if_neg e] at m; exact r.own j a m
  · rcases z with z | z
    · exact r.z1 a z
    · rcases r.own i a z with w | w
      · exact .inr (.inr w)
      · exact .inr (.inl w)
theorem vs_frz (i : Nat) (h : VS X cs L st t) : VS X cs L st (frz_ i t) :=
  ⟨fun e hl => ps_weak (h.run e hl) fun D σ H ⟨env, Z, Fs, E, rl, ⟨d, hd, q⟩, ok⟩ => by
    obtain ⟨Fs', rl'⟩ := rl.freeze0 hd
    exact ⟨_, _, Fs', E, rl', q, ok⟩⟩
theorem set_id {α : Type} {l : List α} {i : Nat} {x : α} (h : l[i]? = some x) : l.set i x = l := by
  apply List.ext_getElem?
  intro j
  by_cases e : j = i
  · subst e
    rw [h, List.getElem?_set_self (List.getElem?_eq_some_iff.mp h).1]
  · rw [List.getElem?_set_ne (Ne.symm e)]
/-- x.append(e) -/
def app_ (i : Nat) (ta : TED) : TSD := fun E env => ∃ xs, env[i]? = some (some (.lst true xs)) ∧ xs.length < sizeLine ∧ ta env fun d => E.nx (env.set i (some (.lst true (xs ++ [d]))))
theorem vs_app (i : Nat) (h : PE X a (tBM X.K "list" rAppend (tVar i) (tCons (tOfT X.K cs ta) tNil))) (hL : i ∉ L := by decide) (hs : swapsWith a none pos.line X.env = pure false := by rfl) : VS X cs L (.Expr a pos) (app_ i ta) :=
  ⟨fun e hl => ps_weak (ps_expr h hs) fun D σ H ⟨env, Z, Fs, E, rl, ⟨xs, hx, hz, q⟩, ok⟩ => by
    obtain ⟨v, h1, h2⟩ := rl.slot i _ hx
    obtain ⟨p, vs, F', rfl, t, r, hF⟩ := h2
    refine ⟨_, h1, .inl ⟨rfl, vs, SqL.of t⟩, e, env, Z, Fs, rl, _, q, fun w H' Z' d F x rw nd fre z => ⟨p, vs, w, rfl, rfl, x.same.at t, by rw [r.len]; exact hz, ?_⟩⟩
    have rl' := rl.ext x
    have mp : p ∈ Fs i := by rw [hF]; exact List.mem_cons_self
    have npF : p ∉ F := fun m => by
      have := (fre p m).1
      rw [t] at this; cases this
    have npF' : p ∉ F' := fun m => by
      have := rl.nd i
      rw [hF] at this
      exact (List.nodup_cons.mp this).1 m
    -- the slot is forgotten, the list written, the slot set anew
    obtain ⟨Fs1, rl1, k1, k2⟩ := rl'.wipes i (some (.ref p)) fun q m w => hL (w ▸ hl q m)
    have nFs : ∀ j, p ∉ Fs1 j := fun j m => by
      by_cases ej : j = i
      · rw [ej, k2] at m; cases m
      · rw [k1 j ej] at m
        exact rl.dj j i p ej m mp
    have t' := x.same.at t
    have rl2 := rl1.writes (o' := .lst (vs ++ [w])) t' trivial nFs (rl'.dz i p mp) (rl.own i p mp)
    have r1 : RL X.K cs (upd H' p (.lst (vs ++ [w]))) Z' (xs ++ [d]) (vs ++ [w]) (F' ++ F) :=
      RL.writes (RL.app (r.ext x) (RL.one rw)) t' trivial (fun m => (List.mem_append.mp m).elim npF' npF) (rl'.dz i p mp)
    have hnd : (p :: (F' ++ F)).Nodup := by
      have ndi := rl.nd i
      rw [hF] at ndi
      exact List.nodup_cons.mpr ⟨fun m => (List.mem_append.mp m).elim npF' npF, List.nodup_append.mpr ⟨(List.nodup_cons.mp ndi).2, nd, fun a m b n e => by
        subst e
        obtain ⟨o, w⟩ := rl.alloc (i := i) (a := a) (by rw [hF]; exact List.mem_cons_of_mem _ m)
        rw [(fre a n).1] at w; cases w⟩⟩
    have hall : ∀ a ∈ p :: (F' ++ F), ¬ Z' a ∧ (e.W a ∨ e.H0 a = none) ∧ ∀ j, j ≠ i → a ∉ Fs1 j := fun a m => by
      have inI : a ∈ Fs i → ¬ Z' a ∧ (e.W a ∨ e.H0 a = none) ∧ ∀ j, j ≠ i → a ∉ Fs1 j := fun n => ⟨rl'.dz i a n, rl.own i a n, fun j ej w => by
        rw [k1 j ej] at w
        exact rl.dj j i a ej w n⟩
      rcases List.mem_cons.mp m with rfl | m
      · exact inI mp
      · rcases List.mem_append.mp m with m | m
        · exact inI (by rw [hF]; exact List.mem_cons_of_mem _ m)
        · refine ⟨(fre a m).2, rl.free0 (fre a m).1, fun j ej w => ?_⟩
          rw [k1 j ej] at w
          obtain ⟨o, q⟩ := rl.alloc w
          rw [(fre a m).1] at q; cases q
    obtain ⟨Fs3, rl3⟩ := rl2.sets (i := i) (d := .lst true (xs ++ [d])) (v := .ref p) (F := p :: (F' ++ F)) ⟨p, _, _, rfl, upd_same, r1, rfl⟩ hnd hall (fun q m w => hL (w ▸ hl q m))
    rw [List.set_set, List.set_set, set_id h1] at rl3
    exact ok.nx σ _ Z' _ Fs3 rl3 z⟩
end
end VL
set_option maxHeartbeats 2000000
namespace VL
open PySem L2 PyProof.Rows
section
variable {X : Cx} {cs : Cs} {L : List Nat} {a b c iter : Expr} {pos : Pos} {ta tb : TED} {st : Stmt} {sts body : List Stmt} {t u : TSD}
/-! ### loops -/
def for_ (i : Nat) (ti : TAD) (tb : TSD) : TSD := fun E env => ti env fun ds => ∃ Pv : Nat → Env → Prop, Pv 0 env ∧
  (∀ (k : Nat) d env', ds[k]? = some d → Pv k env' → tb { nx := Pv (k + 1), ct := Pv (k + 1), bk := E.nx, rt := E.rt, ex := E.ex } (env'.set i (some d))) ∧ ∀ env', Pv ds.length env' → E.nx env'
theorem vs_for (i : Nat) {x : Str} {p : Pos} {ti : TAD} (hp : PassesOwn (model X.prog X.w) X.A X.env X.xe) (hc : X.calm = true) (hi : VI X cs (.Name x p) iter ti) (hN : X.N.Nodup) (hb : VSs X cs L body t) (hix : X.N[i]? = some x := by rfl) (hx : Loc X.env.scope x := by first | exact .inl rfl | exact .inr rfl) (hL : i ∉ L := by decide)
    (hf : X.fn x = true ∨ X.env.scope.names.lookup x = some .local := by first | exact .inl rfl | exact .inr rfl | assumption) (hs : ∀ y, foldedSetIterable iter X.env y = pure y := by intro _; rfl) : VS X cs L (.For (.Name x p) iter body [] pos) (for_ i ti t) := by
  refine ⟨fun e hl => ⟨fun pins s σ H Dh I h => ?_⟩⟩
  obtain ⟨env, Z, Fs, E, rl, q, ok⟩ := h
  -- sources are known only behind the walk's making: one reading for all
  have all : PS X (.For (.Name x p) iter body [] pos) (tFor (tOfI X.K cs ti) (gName i) (fun D' σ' H' => ∃ gs, tSOf X.K cs { e with gs := gs ++ e.gs } t D' σ' H')) :=
    ps_for hp hc hi.run (pg_name hN hix hx hf) ⟨fun pins s σ H Dh I ⟨gs, h⟩ => (hb.run { e with gs := gs ++ e.gs } hl).run pins s σ H Dh I h⟩ hs
  refine all.run pins s σ H Dh I ⟨e, env, Z, Fs, rl, _, q, fun J H1 Z1 srcs ds x1 hsrc ⟨G, Y, hw, hG, hY⟩ ⟨Pv, p0, turn, fin⟩ => ?_⟩
  refine for_it (g := gName i) (tb := fun D' σ' H' => ∃ gs, tSOf X.K cs { e with gs := gs ++ e.gs } t D' σ' H') hw (fun k σ' H' => ∃ env' Z' Fs', Rel X.K cs { e with gs := srcs ++ e.gs } H' Z' σ' env' Fs' ∧ Pv k env') ⟨env, Z1, Fs, (rl.ext x1).withgs hsrc, p0⟩ (fun k σ' H' _ ⟨env', Z', Fs', r, _⟩ => hG H' Z' fun q m => r.gs q (List.mem_append_left _ m)) ?_ fun σ' H' ⟨env', Z', Fs', r, h⟩ => ok.nx σ' H' Z' env' Fs' r.lessgs (fin env' h)
  rintro k y σ' H' H2 hk ⟨env', Z', Fs', r, pv⟩ hy
  obtain ⟨x2, d, hd, rd⟩ := hY k H' Z' y H2 hk (fun q m => r.gs q (List.mem_append_left _ m)) hy
  obtain ⟨Fs2, r2⟩ := (r.ext x2).sets (i := i) rd List.nodup_nil (fun a m => by cases m) (fun q m w => hL (w ▸ hl q m))
  refine ⟨srcs, env'.set i (some d), Z', Fs2, _, r2, turn k d env' hd pv, fun σ3 H3 Z3 env3 Fs3 r3 h => ⟨env3, Z3, Fs3, r3, h⟩, fun σ3 H3 Z3 env3 Fs3 r3 h => ok.nx σ3 H3 Z3 env3 Fs3 r3.lessgs h,
    fun σ3 H3 Z3 env3 Fs3 r3 h => ⟨env3, Z3, Fs3, r3, h⟩, fun v σ3 H3 Z3 env3 Fs3 r F r3 rr nd hF h => ok.rt v σ3 H3 Z3 env3 Fs3 r F r3.lessgs rr nd hF h⟩
def while_ (tc : TTD) (tb : TSD) : TSD := fun E env => ∃ (P : Env → Prop) (μ : Env → Nat), P env ∧ ∀ env, P env → tc env fun b =>
  (b = true → tb { nx := fun env' => P env' ∧ μ env' < μ env, ct := fun env' => P env' ∧ μ env' < μ env, bk := E.nx, rt := E.rt, ex := E.ex } env) ∧ (b = false → E.nx env)
theorem vs_while {tc : TTD} (hp : PassesOwn (model X.prog X.w) X.A X.env X.xe) (hc : VB X cs c tc) (hb : VSs X cs L body t) : VS X cs L (.While c body [] pos) (while_ tc t) :=
  ⟨fun e hl => ps_weak (ps_while hp hc.run (hb.run e hl)) fun D σ H ⟨env, Z, Fs, E, rl, ⟨P, μ, p0, turn⟩, ok⟩ => by
    refine ⟨fun m σ' H' => ∃ env' Z' Fs', Rel X.K cs e H' Z' σ' env' Fs' ∧ P env' ∧ μ env' = m, ⟨_, env, Z, Fs, rl, p0, rfl⟩, ?_⟩
    rintro m σ' H' ⟨env', Z', Fs', r, pv, rfl⟩
    refine ⟨e, env', Z', Fs', r, _, turn env' pv, fun b H2 Z2 x2 z => ?_⟩
    cases b with
    | true =>
      rw [if_pos rfl]
      refine ⟨fun σ3 H3 => ∃ env3 Z3 Fs3, Rel X.K cs e H3 Z3 σ3 env3 Fs3 ∧ P env3 ∧ μ env3 < μ env', fun σ3 H3 ⟨env3, Z3, Fs3, r3, p3, l3⟩ => ⟨_, l3, env3, Z3, Fs3, r3, p3, rfl⟩, ?_⟩
      exact ⟨env', Z2, Fs', _, r.ext x2, z.1 rfl, fun σ3 H3 Z3 env3 Fs3 r3 h => ⟨env3, Z3, Fs3, r3, h⟩, ok.nx, fun σ3 H3 Z3 env3 Fs3 r3 h => ⟨env3, Z3, Fs3, r3, h⟩, ok.rt⟩
    | false =>
      rw [if_neg Bool.false_ne_true]
      exact ok.nx σ' H2 Z2 env' Fs' (r.ext x2) (z.2 rfl)⟩

/-! ### list comprehensions -/
structure VTs (X : Cx) (cs : Cs) (ifs : List Expr) (t : TTD) : Prop where
  run : PTs X ifs (tOfB X.K cs t)
def yes_ : TTD := fun _ Q => Q true
theorem pts_weak {X : Cx} {ifs : List Expr} {t t' : TT} (h : PTs X ifs t) (w : ∀ σ H Q, t' σ H Q → t σ H Q) : PTs X ifs t' := ⟨fun pins s σ H Q I q => h.run pins s σ H Q I (w σ H Q q)⟩
theorem vts_nil : VTs X cs [] yes_ := ⟨pts_weak pts_nil fun σ H Q ⟨e, env, Z, Fs, rl, QD, q, k⟩ => k true H Z (Ext.refl H Z) q⟩
theorem vts_one {tt : TTD} (h : VB X cs c tt) : VTs X cs [c] tt := ⟨pts_one h.run⟩
def lc_ (i : Nat) (ti : TAD) (tt : TTD) (te : TED) : TED := fun env Q => ti env fun ds => ∃ (p : D → Bool) (f : D → D), (∀ d ∈ ds, tt (env.set i (some d)) fun b => b = p d) ∧ (∀ d ∈ ds, p d = true → te (env.set i (some d)) fun y => y = f d) ∧
  ds.length ≤ sizeLine ∧ Q (.lst true ((ds.filter p).map f))
/-- the reading of a comprehension -/
theorem lc_te {i : Nat} {ti : TAD} {tt : TTD} {te : TED} {K : PySem.W.Frag} : ∀ σ H Q, tOfT K cs (lc_ i ti tt te) σ H Q → tLc (tOfI K cs ti) (gName i) (tOfB K cs tt) (tOfT K cs te) [i] σ H Q := by
  rintro σ H Q ⟨e, env, Z, Fs, rl, QD, q, k⟩
  refine ⟨{ e with io := [] }, env, Z, Fs, ⟨rl.slot, rl.off, rl.nd, rl.dj, rl.dz, rl.za, rl.own, rl.fr, rl.th, rl.tb, rl.z0, rl.z1, fun p m => (by cases m), rl.gs, rl.len⟩, _, q, fun J H1 Z1 srcs ds x1 hsrc ⟨G, Y, hw, hG, hY⟩ ⟨p, f, hp, hf, hz, qd⟩ Dp hD => ?_⟩
  have rl0 : Rel K cs { e with io := [], gs := srcs ++ e.gs } H1 Z1 σ env Fs :=
    Rel.withgs (e := { e with io := [] }) ⟨(rl.ext x1).slot, rl.off, rl.nd, rl.dj, (rl.ext x1).dz, (rl.ext x1).za, rl.own, (rl.ext x1).fr, (rl.ext x1).th, (rl.ext x1).tb, (rl.ext x1).z0, (rl.ext x1).z1, fun p m => (by cases m), (rl.ext x1).gs, rl.len⟩ hsrc
  have nz1 : ¬ Z1 Dp := rl0.nz hD
  refine lc_it hw (fun k H' => ∃ Z' acc Fa, Rel K cs { e with io := [], gs := srcs ++ e.gs } H' Z' σ env Fs ∧ Ext cs H1 H' Z1 Z' ∧ H' Dp = some (.lst acc) ∧ ¬ Z' Dp ∧ acc.length ≤ k ∧ RL K cs H' Z' (((ds.take k).filter p).map f) acc Fa ∧ Fa.Nodup ∧ (∀ a ∈ Fa, a ≠ Dp ∧ H1 a = none ∧ ¬ Z' a))
    ⟨Z1, [], [], rl0.ext (Ext.of (same_upd hD)), Ext.of (same_upd hD), upd_same, nz1, Nat.le_refl _, by simp; exact ⟨rfl, rfl⟩, List.nodup_nil, fun a m => by cases m⟩
    (fun k H' _ ⟨Z', acc, Fa, r, _⟩ => hG H' Z' fun q m => r.gs q (List.mem_append_left _ m)) ?_ ?_
  · rintro k y H' H2 hk ⟨Z', acc, Fa, r, x', hDp, nzD, hl, ra, nda, hFa⟩ hy
    obtain ⟨x2, d, hd, rd⟩ := hY k H' Z' y H2 hk (fun q m => r.gs q (List.mem_append_left _ m)) hy
    have md : d ∈ ds := List.mem_of_getElem? hd
    obtain ⟨Fw, rw1, _, _⟩ := (r.ext x2).wipes i (none : Option V) (fun q m => by cases m)
    obtain ⟨Fs2, r2⟩ := rw1.sets (i := i) rd List.nodup_nil (fun a m => by cases m) (fun q m => by cases m)
    rw [show (env.set i none).set i (some d) = env.set i (some d) from List.set_set ..] at r2
    have etake : ds.take (k + 1) = ds.take k ++ [d] := by rw [List.take_add_one, hd]; rfl
    refine ⟨by show ((σ.set i none).set i (some y)).set i none = σ.set i none; rw [List.set_set, List.set_set], _, env.set i (some d), Z', Fs2, r2, _, hp d md, fun b H3 Z3 x3 eb => ?_⟩
    subst eb
    have x23 := x2.trans x3
    have t3 := x23.same.at hDp
    have nzD3 : ¬ Z3 Dp := fun z => by
      rcases x23.new _ z with z | ⟨z, _⟩
      · exact nzD z
      · rw [hDp] at z; cases z
    have nzFa3 : ∀ a ∈ Fa, ¬ Z3 a := fun a m z => by
      rcases x23.new _ z with z | ⟨z, _⟩
      · exact (hFa a m).2.2 z
      · obtain ⟨o, w⟩ := RL.alloc _ _ _ ra a m
        rw [z] at w; cases w
    cases hpd : p d with
    | false =>
      rw [if_neg Bool.false_ne_true]
      refine ⟨Z3, acc, Fa, r.ext x23, x'.trans x23, t3, nzD3, by omega, ?_, nda, fun a m => ⟨(hFa a m).1, (hFa a m).2.1, nzFa3 a m⟩⟩
      rw [etake, List.filter_append, List.filter_cons_of_neg (by rw [hpd]; exact Bool.false_ne_true), List.filter_nil, List.append_nil]
      exact ra.ext x23
    | true =>
      rw [if_pos rfl]
      refine ⟨_, env.set i (some d), Z3, Fs2, r2.ext x3, _, hf d md hpd, fun z H4 Z4 d4 F4 x4 r4 nd4 fre4 ed => ?_⟩
      subst ed
      have x234 := x23.trans x4
      have t4 := x234.same.at hDp
      have kd : k < ds.length := hk
      have nzD4 : ¬ Z4 Dp := fun z => by
        rcases x4.new _ z with z | ⟨z, _⟩
        · exact nzD3 z
        · rw [t3] at z; cases z
      have nF4 : Dp ∉ F4 := fun m => by
        have := (fre4 Dp m).1
        rw [t3] at this; cases this
      refine ⟨acc, t4, by omega, ?_⟩
      refine ⟨Z4, acc ++ [z], Fa ++ F4, (r.ext x234).writes (o' := .lst (acc ++ [z])) t4 trivial (fun j m => ?_) nzD4 (rl0.free0 hD), ?_, upd_same, nzD4, by simp; omega, ?_, ?_, ?_⟩
      · obtain ⟨o, w⟩ := rl0.alloc m
        rw [hD] at w; cases w
      · refine ⟨⟨fun a o w n => ?_, fun a o w => ?_, fun tt => tabs_keep ((x'.trans x234).same.tabs tt) fun b u q n => ?_⟩, (x'.trans x234).up, fun a w => ?_⟩
        · rw [upd_ne (ne_of_none w hD)]; exact (x'.trans x234).same.keep a o w n
        · rw [upd_ne (ne_of_none w hD)]; exact (x'.trans x234).same.there a o w
        · rw [upd_ne (fun e => by subst e; rw [t4] at q; cases q; exact n trivial)]; exact q
        · rcases (x'.trans x234).new a w with w | ⟨w, o, ho⟩
          · exact .inl w
          · by_cases ea : a = Dp
            · exact absurd (ea ▸ w) (by intro _; exact nzD4 (by rw [← ea]; assumption))
            · exact .inr ⟨w, o, by rw [upd_ne ea]; exact ho⟩
      · rw [etake, List.filter_append, List.filter_cons_of_pos hpd, List.filter_nil, List.map_append]
        exact RL.writes (RL.app (ra.ext x234) (RL.one r4)) t4 trivial (fun m => (List.mem_append.mp m).elim (fun m => (hFa _ m).1 rfl) nF4) nzD4
      · exact List.nodup_append.mpr ⟨nda, nd4, fun a m b n e => by
          subst e
          obtain ⟨o, w⟩ := RL.alloc _ _ _ (ra.ext x23) a m
          rw [(fre4 a n).1] at w; cases w⟩
      · intro a m
        rcases List.mem_append.mp m with m | m
        · refine ⟨(hFa a m).1, (hFa a m).2.1, fun z => ?_⟩
          rcases x4.new _ z with z | ⟨z, _⟩
          · exact nzFa3 a m z
          · obtain ⟨o, w⟩ := RL.alloc _ _ _ (ra.ext x23) a m
            rw [z] at w; cases w
        · exact ⟨fun e => nF4 (e ▸ m), (x'.trans x23).same.free (fre4 a m).1, (fre4 a m).2⟩
  · rintro H' ⟨Z', acc, Fa, r, x', hDp, nzD, hl, ra, nda, hFa⟩
    rw [List.take_length] at ra
    refine k _ H' Z' (.lst true ((ds.filter p).map f)) (Dp :: Fa) (x1.trans x') ⟨Dp, acc, Fa, rfl, hDp, ra, rfl⟩ (List.nodup_cons.mpr ⟨fun m => (hFa _ m).1 rfl, nda⟩) (fun a m => ?_) qd
    rcases List.mem_cons.mp m with rfl | m
    · exact ⟨x1.same.free hD, nzD⟩
    · exact ⟨x1.same.free (hFa a m).2.1, (hFa a m).2.2⟩
theorem vt_lc (i : Nat) {x : Str} {p : Pos} {elt : Expr} {ifs : List Expr} {scope : Scope} {ti : TAD} {tt : TTD} {te : TED} (hc : X.calm = true) (hN : X.N.Nodup) (hi : VI X cs (.Name x p) iter ti) (ok : BlkOk X.N X.env.scope scope [(x, i)])
    (hg : ∀ (s : Shared) (H : Hp) (C : Addr) (cl : List (Str × Addr)) (fp : List Addr), PG (X.blk s H scope (compEnvC scope cl C X.env) fp) (.Name x p) (gName i)) (ht : ∀ (s : Shared) (H : Hp) (C : Addr) (cl : List (Str × Addr)) (fp : List Addr), VTs (X.blk s H scope (compEnvC scope cl C X.env) fp) cs ifs tt)
    (he : ∀ (s : Shared) (H : Hp) (C : Addr) (cl : List (Str × Addr)) (fp : List Addr), VT (X.blk s H scope (compEnvC scope cl C X.env) fp) cs elt te) (hs : ∀ y, foldedSetIterable iter X.env y = pure y := by intro _; rfl) :
    VT X cs (.ListComp elt [⟨.Name x p, iter, ifs, 0⟩] scope pos) (lc_ i ti tt te) :=
  ⟨pe_weak (pe_lc (own := [(x, i)]) hc hN hi.run ok hg (fun s H C cl fp => (ht s H C cl fp).run) (fun s H C cl fp => (he s H C cl fp).run) hs) lc_te⟩
/-- y = [..] on one line -/
theorem vs_setLc (j i : Nat) {x y : Str} {p py spos : Pos} {elt : Expr} {ifs : List Expr} {scope : Scope} {ti : TAD} {tt : TTD} {te : TED} (hc : X.calm = true) (hN : X.N.Nodup) (hy : X.N[j]? = some y) (hyl : X.env.scope.names.lookup y = some .local)
    (hsw : swapsWith (.ListComp elt [⟨.Name x p, iter, ifs, 0⟩] scope pos) (some (.Name y py)) spos.line X.env = pure true) (hi : VI X cs (.Name x p) iter ti) (ok : BlkOk X.N X.env.scope scope [(x, i)])
    (hg : ∀ (s : Shared) (H : Hp) (C : Addr) (cl : List (Str × Addr)) (fp : List Addr), PG (X.blk s H scope (compEnvC scope cl C X.env) fp) (.Name x p) (gName i)) (ht : ∀ (s : Shared) (H : Hp) (C : Addr) (cl : List (Str × Addr)) (fp : List Addr), VTs (X.blk s H scope (compEnvC scope cl C X.env) fp) cs ifs tt)
    (he : ∀ (s : Shared) (H : Hp) (C : Addr) (cl : List (Str × Addr)) (fp : List Addr), VT (X.blk s H scope (compEnvC scope cl C X.env) fp) cs elt te) (hL : j ∉ L := by decide) (hs : ∀ y, foldedSetIterable iter X.env y = pure y := by intro _; rfl) :
    VS X cs L (.Assign [.Name y py] (.ListComp elt [⟨.Name x p, iter, ifs, 0⟩] scope pos) spos) (set_ j (lc_ i ti tt te)) :=
  ⟨fun e hl => ps_weak (ps_setLc (own := [(x, i)]) hc hN hy hyl hsw hi.run ok hg (fun s H C cl fp => (ht s H C cl fp).run) (fun s H C cl fp => (he s H C cl fp).run) hs) fun D σ H ⟨env, Z, Fs, E, rl, q, ok⟩ =>
    lc_te (K := X.K) σ H _ ⟨e, env, Z, Fs, rl, _, q, fun v H' Z' d F x r nd fre z => by
      obtain ⟨Fs', rl'⟩ := rl.put x r nd fre j fun p m w => hL (w ▸ hl p m)
      exact ok.nx _ H' Z' _ Fs' rl' z⟩⟩

/-! ### defs and calls -/
abbrev SpD := List D → (D → Prop) → Prop
/-- the promise of a def that writes nothing that stood -/
def spOf (K : PySem.W.Frag) (cs : Cs) (s : SpD) : Sp := fun vs H Q _ => LamX.Tabs cs.tb H ∧ ∃ Z ds, (∀ a, Z a → ∃ o, H a = some o) ∧ RL K cs H Z ds vs [] ∧ ∃ QD, s ds QD ∧
  ∀ v H' Z' r F, Ext cs H H' Z Z' → R K cs H' Z' r v F → F.Nodup → (∀ a ∈ F, H a = none ∧ ¬ Z' a) → QD r → Q v H'
def callD (s : SpD) (u : TAD) : TED := fun env Q => u env fun ds => s (frzL ds) fun r => (alo r = true ∨ noOwnL ds = true) ∧ Q r
theorem vt_call {s : SpD} {k : Nat} {f : Addr} {fd : FuncData} {ps : List Str} {x : Str} {p : Pos} {es : List Expr} {u : TAD} (F : FnOk X.prog X.w X.K X.mg X.base CX0 k f fd ps (spOf X.K cs s)) (hr : Room k X.A) (hg : Gl X x) (hm : X.mg x = some (.ref f)) (hk : PySem.W.keepIn X.K (.ref f) = true) (hb : Binds X.K fd ps [])
    (ha : VAr X cs (a :: es) u) (hdb : (x == ("__debug__" : Str)) = false := by decide) (he : starEach (a :: es) X.env = (false, eval a X.env) :: starEach es X.env := by rfl) (hpl : (backTo pos (starEach es X.env)).any (·.1) = false := by rfl) :
    VT X cs (.Call (.Name x p) (a :: es) [] pos) (callD s u) :=
  ⟨pe_weak (pe_call F hr hg hm hk hb .nil pass0 ha.run hdb he hpl) fun σ H Q ⟨e, env, Z, Fs, rl, QD, q, k⟩ => ⟨e, env, Z, Fs, rl, _, q, fun vs H1 Z1 ds F1 x1 r1 q1 => by
    show spOf X.K cs s (vs ++ []) H1 Q E0
    rw [List.append_nil]
    have al := RL.alloc _ _ _ r1
    refine ⟨(rl.ext x1).tb, fun a => Z1 a ∨ a ∈ F1, frzL ds, fun a z => z.elim ((rl.ext x1).za a) (al a), RL.fr (fun _ h => .inl h) ds vs F1 (fun _ m => .inr m) r1, _, q1, fun v H2 Z2 r F x2 rr nd fre ⟨c, q2⟩ => ?_⟩
    rcases c with c | c
    · refine k v H2 Z1 r F (x1.trans (Ext.of x2.same)) (R.anyZ r v F c rr) nd (fun a m => ⟨x1.same.free (fre a m).1, fun z => (fre a m).2 (x2.up a (.inl z))⟩) q2
    · have e0 := RL.noF ds vs F1 c r1
      subst e0
      exact k v H2 Z2 r F (x1.trans ⟨x2.same, fun a z => x2.up a (.inl z), fun a z => (x2.new a z).imp_left fun w => w.elim id fun m => by cases m⟩) rr nd (fun a m => ⟨x1.same.free (fre a m).1, (fre a m).2⟩) q2⟩⟩
/-- a call whose arguments are handed away: what comes back may hold them -/
def callTD (s : SpD) (u : TAD) : TED := fun env Q => u env fun ds => s (frzL ds) Q
/-- the environment at a def's entry -/
def env0 (n : Nat) (ds : List D) : Env := ds.map some ++ List.replicate (n - ds.length) none
theorem rel_start {K : PySem.W.Frag} {N : List Str} {H : Hp} {Z : Addr → Prop} {ds : List D} {vs : List V} (tb : LamX.Tabs cs.tb H) (za : ∀ a, Z a → ∃ o, H a = some o) (r : RL K cs H Z ds vs []) :
    Rel K cs ⟨H, Z, fun _ => False, [], []⟩ H Z (L2.start N vs) (env0 N.length ds) fun _ => [] := by
  have l := r.len
  refine ⟨fun i d h => ?_, fun _ _ => rfl, fun _ => List.nodup_nil, fun _ _ _ _ m => (by cases m), fun _ _ m => (by cases m), za, fun _ _ m => (by cases m), fun a o h _ _ => h, fun a o h => .inr ⟨o, h⟩, tb, fun a z => z, fun a z => Or.inl z, fun p m => (by cases m), fun p m => (by cases m), ?_⟩
  · unfold env0 at h
    by_cases hi : i < ds.length
    · rw [List.getElem?_append_left (by simpa using hi), List.getElem?_map] at h
      cases e : ds[i]? with
      | none => rw [e] at h; cases h
      | some x =>
        rw [e] at h
        cases h
        obtain ⟨y, G, h1, h2, h3⟩ := RL.get r e
        have : G = [] := List.eq_nil_iff_forall_not_mem.mpr fun a m => absurd (h3 a m) (by simp)
        subst this
        refine ⟨y, ?_, h2⟩
        unfold L2.start
        rw [List.getElem?_append_left (by simp; omega), List.getElem?_map, h1]
        rfl
    · rw [List.getElem?_append_right (by simpa using hi)] at h
      rw [List.getElem?_replicate] at h
      split at h <;> cases h
  · unfold L2.start env0
    simp [l]
theorem fn_pure {P : Program} {w : World} {K : PySem.W.Frag} {mg : Str → Option Value} {base : Heap} {x qual : Str} {st : Stmt} {f : Addr} {fd : FuncData} {N ps : List Str} {k : Nat} {s : SpD} {t : TSD} (F : Fun K x qual st f fd) (S : FnScope N ps (defScope st))
    (len : ∀ ds Q, s ds Q → ds.length = ps.length)
    (body : ∀ (cdv : Value) (A : Around) (outer : List PySem.Env) (s : Shared) (H : Hp) (E : XK), Room k (A.deeper (envOfC qual (defScope st) s.heap.objs.size f cdv)) → VSs (cxOf CX0 P w K mg base N qual (defScope st) f cdv A outer s H E).nox cs [] (defBody st) t)
    (law : ∀ ds Q, s ds Q → t { nx := fun _ => Q .non, rt := fun d _ => Q d } (env0 N.length ds)) : FnOk P w K mg base CX0 (k + 1) f fd ps (spOf K cs s) := by
  refine F.ok S (fun vs H Q E ⟨tb, Z, ds, za, r, QD, h, _⟩ => ?_) fun cdv A outer sh H vs Q E hr ⟨tb, Z, ds, za, r, QD, h, fin⟩ => ?_
  · rw [r.len]; exact len ds QD h
  · refine ⟨_, (body cdv A outer sh H E hr).run ⟨H, Z, fun _ => False, [], []⟩ (fun p m => by cases m), env0 N.length ds, Z, fun _ => [], _, rel_start tb za r, law ds QD h, fun σ H' Z' env Fs rl q => ?_, fun _ _ _ _ _ _ q => q, fun _ _ _ _ _ _ q => q, fun v σ H' Z' env Fs d Fd rl rd nd hF q => ?_⟩
    · exact fin .non H' Z' .non [] ⟨⟨fun a o h n => rl.fr a o h n id, fun a o h => (rl.th a o h).elim False.elim id, fun _ => rl.tb⟩, rl.z0, fun a z => (rl.z1 a z).imp_right fun w => ⟨w.elim id False.elim, rl.za a z⟩⟩ ⟨rfl, rfl⟩ List.nodup_nil (fun a m => by cases m) q
    · exact fin v H' Z' d Fd ⟨⟨fun a o h n => rl.fr a o h n id, fun a o h => (rl.th a o h).elim False.elim id, fun _ => rl.tb⟩, rl.z0, fun a z => (rl.z1 a z).imp_right fun w => ⟨w.elim id False.elim, rl.za a z⟩⟩ rd nd (fun a m => ⟨(hF a m).2.1.elim False.elim id, (hF a m).1⟩) q
/-- the law's own promise -/
def spLaw (ns : List Int → Prop) : SpD := fun ds Q => ∃ xs, ds = [.lst false (xs.map .int)] ∧ ns xs ∧ Q (.bl true)
end
end VL
set_option maxHeartbeats 2000000
namespace VL
open PySem L2 PyProof.Rows
section
variable {X : Cx} {cs : Cs} {L : List Nat} {a b c iter : Expr} {pos : Pos} {ta tb : TED} {st : Stmt} {sts body : List Stmt} {t u : TSD}
/-! ### isinstance against a built-in class -/
inductive Ty where | int | bool | str | list | tuple | dict
def isT : Ty → D → Bool
  | .int, .int _ => true
  | .int, .bl _ => true
  | .bool, .bl _ => true
  | .str, .str _ => true
  | .list, .lst _ _ => true
  | .tuple, .tup _ => true
  | .dict, .dic _ _ _ => true
  | .dict, .dit _ _ _ => true
  | _, _ => false
def plainD : D → Bool
  | .obj _ _ _ _ => false
  | .opq => false
  | .at _ _ => false
  | .dit _ _ _ => false
  | _ => true
def isi_ (t : Ty) (ta : TED) : TED := fun env Q => ta env fun d => plainD d = true ∧ Q (.bl (isT t d))
theorem boot_tys : bootBuiltins "int" = some (.type "int") ∧ bootBuiltins "bool" = some (.type "bool") ∧ bootBuiltins "str" = some (.type "str") ∧ bootBuiltins "list" = some (.type "list") ∧ bootBuiltins "tuple" = some (.type "tuple") ∧ bootBuiltins "dict" = some (.type "dict") := by decide +kernel
theorem boot_more : bootBuiltins "len" = some (.builtin "len") ∧ bootBuiltins "min" = some (.builtin "min") ∧ bootBuiltins "max" = some (.builtin "max") ∧ bootBuiltins "abs" = some (.builtin "abs") ∧ bootBuiltins "sorted" = some (.builtin "sorted") ∧ bootBuiltins "sum" = some (.builtin "sum") := by decide +kernel

/-! ### a def that is known -/
structure Kn (P : Program) (w : World) (K : PySem.W.Frag) (mg : Str → Option Value) (base : Heap) (cs : Cs) (x : Str) (k : Nat) (ps : List Str) (s : SpD) : Prop where
  ex : ∃ (f : Addr) (fd : FuncData), FnOk P w K mg base CX0 k f fd ps (spOf K cs s) ∧ mg x = some (.ref f) ∧ PySem.W.keepIn K (.ref f) = true ∧ Binds K fd ps []
theorem vt_fn {s : SpD} {k : Nat} {ps : List Str} {x : Str} {p : Pos} {es : List Expr} {u : TAD} (h : Kn X.prog X.w X.K X.mg X.base cs x k ps s) (hr : Room k X.A) (hg : Gl X x) (ha : VAr X cs (a :: es) u) (hdb : (x == ("__debug__" : Str)) = false := by decide)
    (he : starEach (a :: es) X.env = (false, eval a X.env) :: starEach es X.env := by rfl) (hpl : (backTo pos (starEach es X.env)).any (·.1) = false := by rfl) : VT X cs (.Call (.Name x p) (a :: es) [] pos) (callD s u) := by
  obtain ⟨f, fd, F, hm, hk, hb⟩ := h.ex
  exact vt_call F hr hg hm hk hb ha hdb he hpl
/-- a name of the text that is no name of the module: a built-in -/
abbrev Free (mg : Str → Option Value) (names : List Str) : Prop := ∀ n ∈ names, mg n = none
end

/-! ### simple facts for the proofs over data -/
theorem sq_i {t u : TSD} {E : EndsD} {env : Env} (h : t { E with nx := fun e => u E e } env) : sq_ t u E env := ⟨_, h, fun _ q => q⟩
theorem sq_cut {t u : TSD} {E : EndsD} {env : Env} (Rr : Env → Prop) (h : t { E with nx := Rr } env) (h2 : ∀ e, Rr e → u E e) : sq_ t u E env := ⟨Rr, h, h2⟩
theorem size_line : sizeLine = 16777216 := sizeLine_eq
abbrev lI (m : Bool) (ns : List Int) : D := .lst m (ns.map .int)
theorem noOwn_lI (ns : List Int) : noOwnL (ns.map .int) = true := by rw [noOwnL_all]; simp [noOwn]
theorem aloL_lI (ns : List Int) : aloL (ns.map .int) = true := by rw [aloL_all]; simp [alo]
theorem frzL_lI (ns : List Int) : frzL (ns.map .int) = ns.map .int := frzL_id _ (noOwn_lI ns)
theorem atI_map {α β : Type} (f : α → β) (xs : List α) (i : Int) : atI (xs.map f) i = (atI xs i).map f := by
  unfold atI
  rw [List.length_map]
  cases ixN xs.length i with
  | none => rfl
  | some j => simp
theorem atI_pos {α : Type} {xs : List α} {i : Int} (h0 : 0 ≤ i) (h1 : i < xs.length) (d : α) : atI xs i = some (xs.getD i.toNat d) := by
  unfold atI ixN
  rw [if_pos h0, if_pos h1]
  have : i.toNat < xs.length := by omega
  simp [List.getD, this]
theorem deq_int (i j : Int) : deq (.int i) (.int j) = decide (i = j) := by
  show (i == j) = _
  rw [Bool.beq_eq_decide_eq]
theorem deq_str (i j : Str) : deq (.str i) (.str j) = decide (i = j) := by
  show (i == j) = _
  rw [Bool.beq_eq_decide_eq]
theorem deq_bl (i j : Bool) : deq (.bl i) (.bl j) = decide (i = j) := by
  show (i == j) = _
  rw [Bool.beq_eq_decide_eq]
theorem rng_get {lo : Int} {n k : Nat} {d : D} (h : (rngD lo n)[k]? = some d) : k < n ∧ d = .int (lo + (k : Nat)) := by
  unfold rngD at h
  rw [List.getElem?_map] at h
  cases e : (List.range n)[k]? with
  | none => rw [e] at h; cases h
  | some x =>
    rw [e] at h
    have := List.getElem?_eq_some_iff.mp e
    obtain ⟨hk, hx⟩ := this
    rw [List.getElem_range] at hx
    rw [List.length_range] at hk
    subst hx
    exact ⟨hk, (Option.some.inj h).symm⟩
theorem rng_len (lo : Int) (n : Nat) : (rngD lo n).length = n := by unfold rngD; rw [List.length_map, List.length_range]
end VL
set_option maxHeartbeats 2000000
namespace VL
open PySem L2
/-! ### steps of a proof over data -/
theorem lc_int {i : Nat} {tt : TTD} {te : TED} {env : Env} {Q : D → Prop} (ns : List Int) (p : Int → Bool) (g : Int → D) (h1 : ∀ n ∈ ns, tt (env.set i (some (.int n))) fun b => b = p n)
    (h2 : ∀ n ∈ ns, p n = true → te (env.set i (some (.int n))) fun y => y = g n) (h3 : ns.length ≤ sizeLine) (q : Q (.lst true ((ns.filter p).map g))) :
    ∃ (p : D → Bool) (f : D → D), (∀ d ∈ ns.map D.int, tt (env.set i (some d)) fun b => b = p d) ∧ (∀ d ∈ ns.map D.int, p d = true → te (env.set i (some d)) fun y => y = f d) ∧ (ns.map D.int).length ≤ sizeLine ∧ Q (.lst true (((ns.map D.int).filter p).map f)) := by
  refine ⟨fun d => match d with | .int n => p n | _ => false, fun d => match d with | .int n => g n | _ => .non, ?_, ?_, by simpa using h3, ?_⟩
  · intro d m
    obtain ⟨n, hn, rfl⟩ := List.mem_map.mp m
    exact h1 n hn
  · intro d m hp
    obtain ⟨n, hn, rfl⟩ := List.mem_map.mp m
    exact h2 n hn hp
  · rw [List.filter_map, List.map_map]
    exact q
/-- over any list of data -/
theorem lc_map {α : Type} {i : Nat} {tt : TTD} {te : TED} {env : Env} {Q : D → Prop} (xs : List α) (c : α → D) (p : α → Bool) (g : α → D) (inj : ∀ a b, c a = c b → a = b) (h1 : ∀ n ∈ xs, tt (env.set i (some (c n))) fun b => b = p n)
    (h2 : ∀ n ∈ xs, p n = true → te (env.set i (some (c n))) fun y => y = g n) (h3 : xs.length ≤ sizeLine) (q : Q (.lst true ((xs.filter p).map g))) :
    ∃ (p : D → Bool) (f : D → D), (∀ d ∈ xs.map c, tt (env.set i (some d)) fun b => b = p d) ∧ (∀ d ∈ xs.map c, p d = true → te (env.set i (some d)) fun y => y = f d) ∧ (xs.map c).length ≤ sizeLine ∧ Q (.lst true (((xs.map c).filter p).map f)) := by
  classical
  have key : ∀ a : α, (∃ b, c b = c a) := fun a => ⟨a, rfl⟩
  refine ⟨fun d => if h : ∃ a, c a = d then p (Classical.choose h) else false, fun d => if h : ∃ a, c a = d then g (Classical.choose h) else .non, ?_, ?_, by simpa using h3, ?_⟩
  · intro d m
    obtain ⟨n, hn, rfl⟩ := List.mem_map.mp m
    have e : Classical.choose (key n) = n := inj _ _ (Classical.choose_spec (key n))
    simp only [key n, dif_pos, e]
    exact h1 n hn
  · intro d m hp
    obtain ⟨n, hn, rfl⟩ := List.mem_map.mp m
    have e : Classical.choose (key n) = n := inj _ _ (Classical.choose_spec (key n))
    simp only [key n, dif_pos, e] at hp ⊢
    exact h2 n hn hp
  · rw [List.filter_map, List.map_map]
    have e1 : (fun d => if h : ∃ a, c a = d then p (Classical.choose h) else false) ∘ c = p := by
      funext n
      have e : Classical.choose (key n) = n := inj _ _ (Classical.choose_spec (key n))
      simp only [Function.comp, key n, dif_pos, e]
    have e2 : (fun d => if h : ∃ a, c a = d then g (Classical.choose h) else .non) ∘ c = g := by
      funext n
      have e : Classical.choose (key n) = n := inj _ _ (Classical.choose_spec (key n))
      simp only [Function.comp, key n, dif_pos, e]
    rw [e1, e2]
    exact q
theorem for_rng1 {i : Nat} {u : TAD} {tb : TSD} {E : EndsD} {env : Env} {j : Int} (hu : ∀ Q : List D → Prop, Q [.int j] → u env Q) (h1 : -(2 ^ 62) ≤ j) (h2 : j < 2 ^ 62) (Pv : Nat → Env → Prop) (h0 : Pv 0 env)
    (hs : ∀ (k : Nat) env', (k : Int) < j → Pv k env' → tb { nx := Pv (k + 1), ct := Pv (k + 1), bk := E.nx, rt := E.rt, ex := E.ex } (env'.set i (some (.int (k : Nat))))) (hd : ∀ env', Pv j.toNat env' → E.nx env') : for_ i (rng1_ u) tb E env := by
  refine hu _ ⟨h1, h2, Pv, h0, fun k d env' hk pv => ?_, fun env' pv => ?_⟩
  · obtain ⟨hk, rfl⟩ := rng_get hk
    rw [Int.zero_add]
    exact hs k env' (by omega) pv
  · rw [rng_len] at pv
    exact hd env' pv
theorem for_list {i : Nat} {ti : TAD} {tb : TSD} {E : EndsD} {env : Env} {ds : List D} (hu : ∀ Q : List D → Prop, Q ds → ti env Q) (Pv : Nat → Env → Prop) (h0 : Pv 0 env)
    (hs : ∀ (k : Nat) d env', ds[k]? = some d → Pv k env' → tb { nx := Pv (k + 1), ct := Pv (k + 1), bk := E.nx, rt := E.rt, ex := E.ex } (env'.set i (some d))) (hd : ∀ env', Pv ds.length env' → E.nx env') : for_ i ti tb E env :=
  hu _ ⟨Pv, h0, hs, hd⟩
theorem toPdL_map {α : Type} (f : α → D) : ∀ xs : List α, toPdL (xs.map f) = xs.map fun x => toPd (f x)
  | [] => rfl
  | x :: xs => by rw [List.map_cons, toPdL, toPdL_map f xs]; rfl
theorem eqvAll_inj {α : Type} [DecidableEq α] (f : α → PyData) (h : ∀ a b, PyData.eqv (f a) (f b) = decide (a = b)) : ∀ (xs ys : List α), PyData.eqvAll (xs.map f) (ys.map f) = decide (xs = ys)
  | [], [] => by simp [PyData.eqvAll]
  | [], y :: ys => by simp [PyData.eqvAll]
  | x :: xs, [] => by simp [PyData.eqvAll]
  | x :: xs, y :: ys => by
    simp only [List.map_cons, PyData.eqvAll, eqvAll_inj f h xs ys, h, List.cons.injEq, Bool.decide_and]
/-- == of two lists of one make -/
theorem deq_lst {α : Type} [DecidableEq α] (f : α → D) (h : ∀ a b, deq (f a) (f b) = decide (a = b)) (m m' : Bool) (xs ys : List α) : deq (.lst m (xs.map f)) (.lst m' (ys.map f)) = decide (xs = ys) := by
  show PyData.eqvAll (toPdL (xs.map f)) (toPdL (ys.map f)) = _
  rw [toPdL_map, toPdL_map]
  exact eqvAll_inj (fun x => toPd (f x)) h xs ys
theorem deq_lI (m m' : Bool) (xs ys : List Int) : deq (lI m xs) (lI m' ys) = decide (xs = ys) := deq_lst .int deq_int m m' xs ys
theorem eqOk_lI (m : Bool) (xs : List Int) (n : Nat) : eqOk (lI m xs) (n + 1) = true := by
  show eqOkL (xs.map .int) n = true
  rw [eqOkL_all]
  simp [eqOk]
theorem isT_ii (i : Int) : isT .int (.int i) = true := rfl
theorem isT_bi (i : Int) : isT .bool (.int i) = false := rfl
theorem isT_li (i : Int) : isT .list (.int i) = false := rfl
theorem isT_bb (b : Bool) : isT .bool (.bl b) = true := rfl
theorem isT_ib (b : Bool) : isT .int (.bl b) = true := rfl
theorem isT_ll (m : Bool) (xs : List D) : isT .list (.lst m xs) = true := rfl
theorem isT_tt (xs : List D) : isT .tuple (.tup xs) = true := rfl
theorem isT_lt (xs : List D) : isT .list (.tup xs) = false := rfl
theorem isT_tl (m : Bool) (xs : List D) : isT .tuple (.lst m xs) = false := rfl
theorem isT_ss (s : Str) : isT .str (.str s) = true := rfl
theorem isT_il (m : Bool) (xs : List D) : isT .int (.lst m xs) = false := rfl
theorem isT_it (xs : List D) : isT .int (.tup xs) = false := rfl
theorem isT_is (s : Str) : isT .int (.str s) = false := rfl
theorem isT_in : isT .int .non = false := rfl
theorem isT_ln : isT .list .non = false := rfl
theorem isT_tn : isT .tuple .non = false := rfl
theorem plain_i (i : Int) : plainD (.int i) = true := rfl
theorem plain_b (i : Bool) : plainD (.bl i) = true := rfl
theorem plain_s (i : Str) : plainD (.str i) = true := rfl
theorem plain_l (m : Bool) (xs : List D) : plainD (.lst m xs) = true := rfl
theorem plain_t (xs : List D) : plainD (.tup xs) = true := rfl
theorem plain_n : plainD .non = true := rfl
theorem atI_0 {α : Type} (x : α) (xs : List α) : atI (x :: xs) 0 = some x := by
  show atI (x :: xs) ((0 : Nat) : Int) = _
  exact atI_nat rfl
theorem atI_1 {α : Type} (x y : α) (xs : List α) : atI (x :: y :: xs) 1 = some y := by
  show atI (x :: y :: xs) ((1 : Nat) : Int) = _
  exact atI_nat rfl
theorem atI_2 {α : Type} (x y z : α) (xs : List α) : atI (x :: y :: z :: xs) 2 = some z := by
  show atI (x :: y :: z :: xs) ((2 : Nat) : Int) = _
  exact atI_nat rfl
theorem atI_3 {α : Type} (x y z u : α) (xs : List α) : atI (x :: y :: z :: u :: xs) 3 = some u := by
  show atI (x :: y :: z :: u :: xs) ((3 : Nat) : Int) = _
  exact atI_nat rfl
theorem atI_4 {α : Type} (x y z u v : α) (xs : List α) : atI (x :: y :: z :: u :: v :: xs) 4 = some v := by
  show atI (x :: y :: z :: u :: v :: xs) ((4 : Nat) : Int) = _
  exact atI_nat rfl
theorem atI_5 {α : Type} (x y z u v w : α) (xs : List α) : atI (x :: y :: z :: u :: v :: w :: xs) 5 = some w := by
  show atI (x :: y :: z :: u :: v :: w :: xs) ((5 : Nat) : Int) = _
  exact atI_nat rfl
/-- an item of a list of ints -/
theorem ix_lI {xs : List Int} {k : Int} {Q : D → Prop} (h0 : 0 ≤ k) (h1 : k < xs.length) (q : Q (.int (xs.getD k.toNat 0))) : ∃ d, atI (xs.map D.int) k = some d ∧ Q d :=
  ⟨_, by rw [atI_map, atI_pos h0 h1 0]; rfl, q⟩
theorem ix_lN {xs : List Int} {k : Nat} {Q : D → Prop} (h1 : k < xs.length) (q : Q (.int (xs.getD k 0))) : ∃ d, atI (xs.map D.int) (k : Int) = some d ∧ Q d :=
  ix_lI (by omega) (by omega) (by rwa [Int.toNat_natCast])
theorem ix_map {α : Type} {f : α → D} {xs : List α} {k : Int} {Q : D → Prop} (d : α) (h0 : 0 ≤ k) (h1 : k < xs.length) (q : Q (f (xs.getD k.toNat d))) : ∃ y, atI (xs.map f) k = some y ∧ Q y :=
  ⟨_, by rw [atI_map, atI_pos h0 h1 d]; rfl, q⟩
theorem getD_ge {α : Type} {xs : List α} {k : Nat} {d : α} (h : xs.length ≤ k) : xs.getD k d = d := by
  rw [List.getD_eq_getElem?_getD, List.getElem?_eq_none h]; rfl
theorem lc_ints {i : Nat} {ti : TAD} {tt : TTD} {te : TED} {env : Env} {Q : D → Prop} {ns : List Int} (hu : ∀ Q : List D → Prop, Q (ns.map .int) → ti env Q) (p : Int → Bool) (g : Int → D) (h1 : ∀ n ∈ ns, tt (env.set i (some (.int n))) fun b => b = p n)
    (h2 : ∀ n ∈ ns, p n = true → te (env.set i (some (.int n))) fun y => y = g n) (h3 : ns.length ≤ sizeLine) (q : Q (.lst true ((ns.filter p).map g))) : lc_ i ti tt te env Q :=
  hu _ (lc_int ns p g h1 h2 h3 q)
theorem lc_intsA {i : Nat} {ti : TAD} {te : TED} {env : Env} {Q : D → Prop} {ns : List Int} (hu : ∀ Q : List D → Prop, Q (ns.map .int) → ti env Q) (g : Int → D)
    (h2 : ∀ n ∈ ns, te (env.set i (some (.int n))) fun y => y = g n) (h3 : ns.length ≤ sizeLine) (q : Q (.lst true (ns.map g))) : lc_ i ti yes_ te env Q :=
  hu _ (lc_int ns (fun _ => true) g (fun _ _ => rfl) (fun n hn _ => h2 n hn) h3 (by rwa [List.filter_eq_self.mpr fun _ _ => rfl]))
theorem sT {A X Y : Prop} (ha : A) (x : X) : (A → X) ∧ (¬A → Y) := ⟨fun _ => x, fun n => absurd ha n⟩
theorem sF {A X Y : Prop} (ha : ¬A) (y : Y) : (A → X) ∧ (¬A → Y) := ⟨fun n => absurd n ha, fun _ => y⟩
theorem frzL_map_id {α : Type} (f : α → D) (h : ∀ a, frz (f a) = f a) (xs : List α) : frzL (xs.map f) = xs.map f := by
  rw [frzL_map, List.map_map]
  exact List.map_congr_left fun a _ => h a
theorem noOwnL_map {α : Type} (f : α → D) (h : ∀ a, noOwn (f a) = true) (xs : List α) : noOwnL (xs.map f) = true := by
  rw [noOwnL_all, List.all_map]
  exact List.all_eq_true.mpr fun a _ => h a
theorem aloL_map {α : Type} (f : α → D) (h : ∀ a, alo (f a) = true) (xs : List α) : aloL (xs.map f) = true := by
  rw [aloL_all, List.all_map]
  exact List.all_eq_true.mpr fun a _ => h a
theorem for_map {α : Type} {i : Nat} {ti : TAD} {tb : TSD} {E : EndsD} {env : Env} (f : α → D) {xs : List α} (hu : ∀ Q : List D → Prop, Q (xs.map f) → ti env Q) (Pv : Nat → Env → Prop) (h0 : Pv 0 env)
    (hs : ∀ (k : Nat) x env', xs[k]? = some x → Pv k env' → tb { nx := Pv (k + 1), ct := Pv (k + 1), bk := E.nx, rt := E.rt, ex := E.ex } (env'.set i (some (f x)))) (hd : ∀ env', Pv xs.length env' → E.nx env') : for_ i ti tb E env := by
  refine for_list hu Pv h0 (fun k d env' h pv => ?_) fun env' pv => hd env' (by rwa [List.length_map] at pv)
  rw [List.getElem?_map] at h
  cases e : xs[k]? with
  | none => rw [e] at h; cases h
  | some n =>
    rw [e] at h
    cases h
    exact hs k n env' e pv
/-! ### slices, == of a thing with itself -/
theorem cutD_to {α : Type} (xs : List α) {j : Int} (h : 0 ≤ j) : cutD xs none (some j) = xs.take j.toNat := by
  obtain ⟨n, rfl⟩ := Int.eq_ofNat_of_zero_le h
  unfold cutD
  rw [HT.sIx_none, HT.sIx_nat, List.drop_zero, Nat.sub_zero, Int.toNat_natCast]
  rw [List.take_eq_take_iff]
  omega
mutual
theorem canLay_of : ∀ (d : D) (n : Nat), eqOk d n = true → (toPd d).canLay0 = true
  | .non, n, h => rfl
  | .bl _, n, h => rfl
  | .int _, n, h => rfl
  | .str _, n, h => h
  | .tup xs, 0, h => by rw [eqOk] at h; cases h
  | .tup xs, n + 1, h => by
    rw [eqOk] at h
    show PyData.canLay0 (.tuple (toPdL xs)) = true
    rw [PyData.canLay0]; exact canLayL_of xs n h
  | .lst m xs, 0, h => by rw [eqOk] at h; cases h
  | .lst m xs, n + 1, h => by
    rw [eqOk] at h
    show PyData.canLay0 (.list (toPdL xs)) = true
    rw [PyData.canLay0]; exact canLayL_of xs n h
  | .dic _ _ _, n, h => by rw [eqOk] at h; cases h
  | .dit _ _ _, n, h => by rw [eqOk] at h; cases h
  | .obj _ _ _ _, n, h => by rw [eqOk] at h; cases h
  | .opq, n, h => by rw [eqOk] at h; cases h
  | .at _ _, n, h => by rw [eqOk] at h; cases h
theorem canLayL_of : ∀ (d : List D) (n : Nat), eqOkL d n = true → PyData.canLayAll0 (toPdL d) = true
  | [], n, h => rfl
  | x :: xs, n, h => by
    rw [eqOkL] at h; simp only [Bool.and_eq_true] at h
    show PyData.canLayAll0 (toPd x :: toPdL xs) = true
    rw [PyData.canLayAll0, canLay_of x n h.1, canLayL_of xs n h.2]; rfl
end
end VL
set_option maxHeartbeats 2000000
namespace VL
open PySem L2 PyProof.Rows
/-! ### a place within a datum -/
section
variable {K : PySem.W.Frag} {cs : Cs} {H H' : Hp} {Z Z' : Addr → Prop}
/-- what must stay while the place is changed -/
abbrev Keeps (H : Hp) (Z : Addr → Prop) (F1 F2 : List Addr) (H' : Hp) : Prop := ∀ a o, H a = some o → NT o → (a ∈ F1 ∨ a ∈ F2 ∨ Z a ∨ ¬ Mut (some o)) → H' a = some o
theorem RL.foc {x : D} : ∀ {xs : List D} {vs : List V} {F : List Addr} {j : Nat}, RL K cs H Z xs vs F → xs[j]? = some x → ∃ w F1 Fe F2, vs[j]? = some w ∧ F = F1 ++ (Fe ++ F2) ∧ R K cs H Z x w Fe ∧
    ∀ H' Z' x' w' Fe', (∀ a, Z a → Z' a) → Keeps H Z F1 F2 H' → R K cs H' Z' x' w' Fe' → RL K cs H' Z' (xs.set j x') (vs.set j w') (F1 ++ (Fe' ++ F2))
  | [], _, _, j, _, e => by simp at e
  | y :: ys, vs, F, 0, r, e => by
    obtain ⟨v, vs', F1, F2, rfl, r1, r2, rfl⟩ := r
    have e : y = x := by simpa using e
    subst e
    refine ⟨v, [], F1, F2, rfl, rfl, r1, fun H' Z' x' w' Fe' hz k re => ?_⟩
    exact ⟨w', vs', Fe', F2, rfl, re, RL.keep hz ys vs' F2 (fun a o h n q => k a o h n (q.elim (fun m => .inr (.inl m)) fun q => .inr (.inr q))) r2, rfl⟩
  | y :: ys, vs, F, j + 1, r, e => by
    obtain ⟨v, vs', F1, F2, rfl, r1, r2, rfl⟩ := r
    obtain ⟨w, G1, Ge, G2, hw, hF, re, up⟩ := RL.foc (j := j) r2 (by simpa using e)
    subst hF
    refine ⟨w, F1 ++ G1, Ge, G2, by simpa using hw, by simp only [List.append_assoc], re, fun H' Z' x' w' Fe' hz k re' => ?_⟩
    refine ⟨v, vs'.set j w', F1, G1 ++ (Fe' ++ G2), rfl, R.keep hz y v F1 (fun a o h n q => k a o h n (q.imp_left (List.mem_append_left _) |>.elim .inl fun q => .inr (.inr q))) r1, up H' Z' x' w' Fe' hz (fun a o h n q => k a o h n ?_) re', by simp only [List.append_assoc]⟩
    rcases q with q | q | q
    · exact .inl (List.mem_append_right _ q)
    · exact .inr (.inl q)
    · exact .inr (.inr q)
/-- e, at u, is a part of the datum at v; put: the datum by the part -/
def Foc (K : PySem.W.Frag) (cs : Cs) (H : Hp) (Z : Addr → Prop) (v : V) (F : List Addr) (e : D) (u : V) (put : D → D) : Prop :=
  ∃ F1 Fe F2, F = F1 ++ (Fe ++ F2) ∧ R K cs H Z e u Fe ∧ ∀ H' Z' e' Fe', (∀ a, Z a → Z' a) → Keeps H Z F1 F2 H' → R K cs H' Z' e' u Fe' → R K cs H' Z' (put e') v (F1 ++ (Fe' ++ F2))
theorem Foc.self {d : D} {v : V} {F : List Addr} (r : R K cs H Z d v F) : Foc K cs H Z v F d v id :=
  ⟨[], F, [], by simp, r, fun H' Z' e' Fe' hz k re => by simpa using re⟩
theorem Foc.ext {v : V} {F : List Addr} {e : D} {u : V} {put : D → D} (x : Ext cs H H' Z Z') (f : Foc K cs H Z v F e u put) : Foc K cs H' Z' v F e u put := by
  obtain ⟨F1, Fe, F2, hF, re, up⟩ := f
  exact ⟨F1, Fe, F2, hF, re.ext x, fun H2 Z2 e' Fe' hz k re' => up H2 Z2 e' Fe' (fun a z => hz a (x.up a z)) (fun a o h n q => k a o (x.same.keep a o h n) n (q.imp_right fun q => q.imp_right fun q => q.imp_left (x.up a))) re'⟩
theorem Foc.here {v : V} {F : List Addr} {e : D} {u : V} {put : D → D} (f : Foc K cs H Z v F e u put) : ∃ Fe, R K cs H Z e u Fe := let ⟨_, Fe, _, _, r, _⟩ := f; ⟨Fe, r⟩
/-- one step further in -/
theorem Foc.go {v : V} {F : List Addr} {e : D} {u : V} {put : D → D} (f : Foc K cs H Z v F e u put) {c : D → D} {x : D} {Pw : V → Prop}
    (s : ∀ Fe, R K cs H Z e u Fe → ∃ w, Pw w ∧ Foc K cs H Z u Fe x w c) : ∃ w, Pw w ∧ Foc K cs H Z v F x w (put ∘ c) := by
  obtain ⟨F1, Fe, F2, hF, re, up⟩ := f
  obtain ⟨w, pw, G1, Ge, G2, hG, rx, up2⟩ := s Fe re
  subst hG
  refine ⟨w, pw, F1 ++ G1, Ge, G2 ++ F2, by rw [hF]; simp only [List.append_assoc], rx, fun H' Z' x' Fx' hz k rx' => ?_⟩
  have h1 := up2 H' Z' x' Fx' hz (fun a o h n q => k a o h n ?_) rx'
  · have h2 := up H' Z' (c x') _ hz (fun a o h n q => k a o h n ?_) h1
    · simp only [List.append_assoc] at h2 ⊢; exact h2
    · rcases q with q | q | q
      · exact .inl (List.mem_append_left _ q)
      · exact .inr (.inl (List.mem_append_right _ q))
      · exact .inr (.inr q)
  · rcases q with q | q | q
    · exact .inl (List.mem_append_right _ q)
    · exact .inr (.inl (List.mem_append_left _ q))
    · exact .inr (.inr q)
theorem foc_tup {xs : List D} {u : V} {Fe : List Addr} {j : Nat} {x : D} (r : R K cs H Z (.tup xs) u Fe) (h : xs[j]? = some x) : ∃ a vs w, u = .ref a ∧ SqT K H a vs ∧ vs[j]? = some w ∧ vs.length = xs.length ∧ Foc K cs H Z u Fe x w fun e' => .tup (xs.set j e') := by
  obtain ⟨a, vs, rfl, t, rl⟩ := r
  obtain ⟨w, F1, F0, F2, hw, hF, re, up⟩ := RL.foc rl h
  refine ⟨a, vs, w, rfl, t, hw, rl.len, F1, F0, F2, hF, re, fun H' Z' e' Fe' hz k re' => ?_⟩
  have := up H' Z' e' w Fe' hz k re'
  rw [set_id hw] at this
  exact ⟨a, vs, rfl, sqt_kp t fun b o e n m => k b o e n (.inr (.inr (.inr m))), this⟩
theorem foc_lst {xs : List D} {u : V} {Fe : List Addr} {j : Nat} {x : D} (r : R K cs H Z (.lst true xs) u Fe) (h : xs[j]? = some x) : ∃ a vs w, u = .ref a ∧ H a = some (.lst vs) ∧ vs[j]? = some w ∧ vs.length = xs.length ∧ Foc K cs H Z u Fe x w fun e' => .lst true (xs.set j e') := by
  obtain ⟨a, vs, F', rfl, t, rl, rfl⟩ := r
  obtain ⟨w, F1, F0, F2, hw, hF, re, up⟩ := RL.foc rl h
  subst hF
  refine ⟨a, vs, w, rfl, t, hw, rl.len, a :: F1, F0, F2, rfl, re, fun H' Z' e' Fe' hz k re' => ?_⟩
  have := up H' Z' e' w Fe' hz (fun b o e n q => k b o e n (q.imp_left (List.mem_cons_of_mem _))) re'
  rw [set_id hw] at this
  exact ⟨a, vs, _, rfl, k a _ t (fun _ z => by cases z) (.inl List.mem_cons_self), this, rfl⟩
/-- a part of a slot's datum is changed in its place -/
theorem Rel.focus {e : En} {σ : L2.St} {env : Env} {Fs : Nat → List Addr} (r : Rel K cs e H Z σ env Fs) {i : Nat} {d : D} {v : V} {F1 Fe F2 Fe' : List Addr} {d' : D} (hd : env[i]? = some (some d)) (hσ : σ[i]? = some (some v)) (hF : Fs i = F1 ++ (Fe ++ F2))
    (rd : R K cs H' Z' d' v (F1 ++ (Fe' ++ F2))) (up : ∀ a, Z a → Z' a) (zn : ∀ a, Z' a → Z a ∨ (H a = none ∧ ∃ o, H' a = some o)) (kp : ∀ a o, H a = some o → (a ∉ Fe ∨ ¬ Mut (some o)) → H' a = some o)
    (nd : Fe'.Nodup) (hfe : ∀ a ∈ Fe', ¬ Z' a ∧ (a ∈ Fe ∨ ((∀ j, a ∉ Fs j) ∧ (e.W a ∨ e.H0 a = none)))) : ∃ Fs', Rel K cs e H' Z' σ (env.set i (some d')) Fs' ∧ (∀ j, j ≠ i → Fs' j = Fs j) ∧ Fs' i = F1 ++ (Fe' ++ F2) := by
  have hi : i < env.length := (List.getElem?_eq_some_iff.mp hd).1
  have inF : ∀ a, a ∈ F1 ∨ a ∈ Fe ∨ a ∈ F2 → a ∈ Fs i := fun a m => by
    rw [hF]; simp only [List.mem_append]; exact m
  have ndF := r.nd i
  rw [hF] at ndF
  have n1 := List.nodup_append.mp ndF
  have n2 := List.nodup_append.mp n1.2.1
  have memF' : ∀ a, a ∈ F1 ++ (Fe' ++ F2) → a ∈ Fs i ∨ (((∀ j, a ∉ Fs j) ∧ (e.W a ∨ e.H0 a = none)) ∧ a ∈ Fe') := fun a m => by
    simp only [List.mem_append] at m
    rcases m with m | m | m
    · exact .inl (inF a (.inl m))
    · rcases (hfe a m).2 with q | q
      · exact .inl (inF a (.inr (.inl q)))
      · exact .inr ⟨q, m⟩
    · exact .inl (inF a (.inr (.inr m)))
  have none_in : ∀ a j, H a = none → a ∉ Fs j := fun a j h m => by
    obtain ⟨o, w⟩ := r.alloc m
    rw [h] at w; cases w
  refine ⟨fun j => if j = i then F1 ++ (Fe' ++ F2) else Fs j, ?_, fun j h => if_neg h, if_pos rfl⟩
  refine ⟨fun j x q => ?_, fun j q => ?_, fun j => ?_, fun j k a jk m => ?_, fun j a m => ?_, fun a z => ?_, fun j a m => ?_, fun a o h nt w => ?_, fun a o h => ?_, ?_, fun a z => up a (r.z0 a z), fun a z => ?_, r.io, fun p m => ?_, by simp [r.len]⟩
  · by_cases ej : j = i
    · subst ej
      rw [List.getElem?_set_self hi] at q
      cases q
      exact ⟨v, hσ, by rw [if_pos rfl]; exact rd⟩
    · rw [List.getElem?_set_ne (Ne.symm ej)] at q
      obtain ⟨w, h1, h2⟩ := r.slot j x q
      refine ⟨w, h1, ?_⟩
      rw [if_neg ej]
      refine R.keep up x w (Fs j) (fun a o h _ m => kp a o h ?_) h2
      rcases m with m | m | m
      · exact .inl fun n => r.dj j i a ej m (inF a (.inr (.inl n)))
      · exact .inl fun n => r.dz i a (inF a (.inr (.inl n))) m
      · exact .inr m
  · show (if j = i then F1 ++ (Fe' ++ F2) else Fs j) = []
    have ej : j ≠ i := fun w => q d' (by rw [w, List.getElem?_set_self hi])
    rw [if_neg ej]
    exact r.off j fun x w => q x (by rw [List.getElem?_set_ne (Ne.symm ej)]; exact w)
  · show (if j = i then F1 ++ (Fe' ++ F2) else Fs j).Nodup
    by_cases ej : j = i
    · rw [if_pos ej]
      refine List.nodup_append.mpr ⟨n1.1, List.nodup_append.mpr ⟨nd, n2.2.1, fun a m b n q => ?_⟩, fun a m b n q => ?_⟩
      · subst q
        rcases (hfe a m).2 with z | z
        · exact n2.2.2 a z a n rfl
        · exact z.1 i (inF a (.inr (.inr n)))
      · subst q
        rcases List.mem_append.mp n with n | n
        · rcases (hfe a n).2 with z | z
          · exact n1.2.2 a m a (List.mem_append_left _ z) rfl
          · exact z.1 i (inF a (.inl m))
        · exact n1.2.2 a m a (List.mem_append_right _ n) rfl
    · rw [if_neg ej]; exact r.nd j
  · show a ∉ (if k = i then F1 ++ (Fe' ++ F2) else Fs k)
    have m : a ∈ (if j = i then F1 ++ (Fe' ++ F2) else Fs j) := m
    by_cases ej : j = i
    · rw [if_pos ej] at m
      have ek : k ≠ i := fun q => jk (ej.trans q.symm)
      rw [if_neg ek]
      rcases memF' a m with m | m
      · exact r.dj i k a (Ne.symm ek) m
      · exact m.1.1 k
    · rw [if_neg ej] at m
      by_cases ek : k = i
      · rw [if_pos ek]
        intro n
        rcases memF' a n with n | n
        · exact r.dj j i a ej m n
        · exact n.1.1 j m
      · rw [if_neg ek]; exact r.dj j k a jk m
  · have m : a ∈ (if j = i then F1 ++ (Fe' ++ F2) else Fs j) := m
    have old : ∀ j, a ∈ Fs j → ¬ Z' a := fun j m z => by
      rcases zn a z with z | z
      · exact r.dz j a m z
      · exact none_in a j z.1 m
    by_cases ej : j = i
    · rw [if_pos ej] at m
      rcases memF' a m with m | m
      · exact old i m
      · exact (hfe a m.2).1
    · rw [if_neg ej] at m; exact old j m
  · rcases zn a z with z | z
    · obtain ⟨o, w⟩ := r.za a z
      exact ⟨o, kp a o w (.inl fun n => r.dz i a (inF a (.inr (.inl n))) z)⟩
    · exact z.2
  · have m : a ∈ (if j = i then F1 ++ (Fe' ++ F2) else Fs j) := m
    by_cases ej : j = i
    · rw [if_pos ej] at m
      rcases memF' a m with m | m
      · exact r.own i a m
      · exact m.1.2
    · rw [if_neg ej] at m; exact r.own j a m
  · refine kp a o (r.fr a o h nt w) (.inl fun n => ?_)
    rcases r.own i a (inF a (.inr (.inl n))) with q | q
    · exact w q
    · rw [q] at h; cases h
  · rcases r.th a o h with w | ⟨o2, w⟩
    · exact .inl w
    · by_cases n : a ∈ Fe
      · rcases r.own i a (inF a (.inr (.inl n))) with q | q
        · exact .inl q
        · rw [q] at h; cases h
      · exact .inr ⟨o2, kp a o2 w (.inl n)⟩
  · refine tabs_keep r.tb fun b u q n => kp b u q (.inl fun m => ?_)
    obtain ⟨v2, _, g2⟩ := r.slot i d hd
    obtain ⟨o2, e2, m2⟩ := R.allocM d v2 _ g2 b (inF b (.inr (.inl m)))
    rw [q] at e2; cases e2
    exact n m2
  · rcases zn a z with z | z
    · exact r.z1 a z
    · rcases r.free0 z.1 with w | w
      · exact .inr (.inr w)
      · exact .inr (.inl w)
  · refine R.keep up p.1 p.2 [] (fun a o h _ q => kp a o h ?_) (r.gs p m)
    rcases q with q | q | q
    · cases q
    · exact .inl fun n => r.dz i a (inF a (.inr (.inl n))) q
    · exact .inr q
/-- the same through a place -/
theorem Rel.foc_put {e : En} {σ : L2.St} {env : Env} {Fs : Nat → List Addr} (r : Rel K cs e H Z σ env Fs) {i : Nat} {d x x' : D} {v u : V} {put : D → D} (hd : env[i]? = some (some d)) (hσ : σ[i]? = some (some v)) (f : Foc K cs H Z v (Fs i) x u put)
    (h : ∀ F1 Fe F2, Fs i = F1 ++ (Fe ++ F2) → Fe.Nodup → (∀ a ∈ Fe, a ∉ F1 ∧ a ∉ F2 ∧ ¬ Z a ∧ (e.W a ∨ e.H0 a = none) ∧ ∀ j, j ≠ i → a ∉ Fs j) → R K cs H Z x u Fe → ∃ Fe', R K cs H' Z' x' u Fe' ∧ (∀ a, Z a → Z' a) ∧ (∀ a, Z' a → Z a ∨ (H a = none ∧ ∃ o, H' a = some o)) ∧ (∀ a o, H a = some o → (a ∉ Fe ∨ ¬ Mut (some o)) → H' a = some o) ∧
      Fe'.Nodup ∧ ∀ a ∈ Fe', ¬ Z' a ∧ (a ∈ Fe ∨ ((∀ j, a ∉ Fs j) ∧ (e.W a ∨ e.H0 a = none)))) : ∃ Fs', Rel K cs e H' Z' σ (env.set i (some (put x'))) Fs' ∧ (∀ j, j ≠ i → Fs' j = Fs j) := by
  obtain ⟨F1, Fe, F2, hF, re, up⟩ := f
  have ndF := r.nd i
  rw [hF] at ndF
  have n1 := List.nodup_append.mp ndF
  have n2 := List.nodup_append.mp n1.2.1
  have inF : ∀ a, a ∈ Fe → a ∈ Fs i := fun a m => by
    rw [hF]; simp only [List.mem_append]; exact .inr (.inl m)
  obtain ⟨Fe', re', uz, zn, kp, nd, hfe⟩ := h F1 Fe F2 hF n2.1 (fun a m => ⟨fun n => n1.2.2 a n a (List.mem_append_left _ m) rfl, fun n => n2.2.2 a m a n rfl, r.dz i a (inF a m), r.own i a (inF a m), fun j ej n => r.dj j i a ej n (inF a m)⟩) re
  have kk : Keeps H Z F1 F2 H' := fun a o ho _ q => kp a o ho (by
    rcases q with q | q | q | q
    · exact .inl fun m => n1.2.2 a q a (List.mem_append_left _ m) rfl
    · exact .inl fun m => n2.2.2 a m a q rfl
    · exact .inl fun m => r.dz i a (inF a m) q
    · exact .inr q)
  obtain ⟨Fs', r', k1, k2⟩ := r.focus hd hσ hF (up H' Z' x' Fe' uz kk re') uz zn kp nd hfe
  exact ⟨Fs', r', k1⟩
end

/-! ### paths: the place of a part of a slot's datum -/
abbrev TPD := Env → ((D → D) → D → Prop) → Prop
def tOfPa (K : PySem.W.Frag) (cs : Cs) (i : Nat) (t : TPD) : TE := fun σ H Q => ∃ e env Z Fs, Rel K cs e H Z σ env Fs ∧ ∃ QD, t env QD ∧
  ∀ u H' Z' put d0 d v, Ext cs H H' Z Z' → σ[i]? = some (some v) → env[i]? = some (some d0) → Foc K cs H' Z' v (Fs i) d u put → QD put d → Q u H'
structure VPa (X : Cx) (cs : Cs) (i : Nat) (e : Expr) (t : TPD) : Prop where
  run : PE X e (tOfPa X.K cs i t)
section
variable {X : Cx} {cs : Cs} {L : List Nat} {a b c : Expr} {pos : Pos} {ta tb : TED} {st : Stmt} {tp : TPD} {i : Nat}
def pv_ (i : Nat) : TPD := fun env Q => ∃ d, env[i]? = some (some d) ∧ Q id d
theorem pa_v (i : Nat) {x : Str} {pos : Pos} (hN : X.N[i]? = some x := by rfl) (hv : Vis X.env.scope x := by first | exact Or.inl rfl | exact Or.inr (Or.inl rfl) | exact Or.inr (Or.inr rfl)) (hd : (x == ("__debug__" : Str)) = false := by decide)
    (hcd : (x == ("__classdict__" : Str)) = false := by decide) : VPa X cs i (.Name x pos) (pv_ i) :=
  ⟨pe_weak (pe_var hN hv hd hcd) fun σ H Q ⟨e, env, Z, Fs, r, QD, ⟨d, q, qd⟩, k⟩ => by
    obtain ⟨v, h1, h2⟩ := r.slot i d q
    exact ⟨v, h1, k v H Z id d d v (Ext.refl H Z) h1 q (Foc.self h2) qd⟩⟩
def dPx : D → D → ((D → D) → D → Prop) → Prop
  | .tup xs, .int k, Q => ∃ j, ixN xs.length k = some j ∧ ∃ x, xs[j]? = some x ∧ Q (fun e' => .tup (xs.set j e')) x
  | .lst true xs, .int k, Q => ∃ j, ixN xs.length k = some j ∧ ∃ x, xs[j]? = some x ∧ Q (fun e' => .lst true (xs.set j e')) x
  | _, _, _ => False
def pix_ (tp : TPD) (tb : TED) : TPD := fun env Q => tp env fun put d => tb env fun k => dPx d k fun c x => Q (put ∘ c) x
theorem pa_ix (ha : VPa X cs i a tp) (hb : VP X cs b tb) (hs : PlainIx b := by first | exact (fun _ _ => rfl) | assumption) : VPa X cs i (.Subscript a b pos) (pix_ tp tb) :=
  ⟨pe_weak (pe_ix ix_seq ha.run hb.run hs) fun σ H Q ⟨e, env, Z, Fs, rl, QD, q, k⟩ => ⟨e, env, Z, Fs, rl, _, q, fun u H1 Z1 put d0 d v x1 hσ he fo q1 => ⟨e, env, Z1, Fs, rl.ext x1, _, q1, fun w H2 Z2 d2 G x2 rw q2 => by
    have fo := fo.ext x2
    cases d2 with
    | int m =>
      cases d with
      | tup xs =>
        obtain ⟨j, hj, x, hx, q2⟩ := q2
        obtain ⟨w', ⟨p, vs, rfl, t, hat⟩, fo2⟩ := fo.go (Pw := fun w' => ∃ p vs, u = .ref p ∧ SqT X.K H2 p vs ∧ atI vs m = some w') fun Fe r => by
          obtain ⟨p, vs, w', e, t, hw, hl, f2⟩ := foc_tup r hx
          exact ⟨w', ⟨p, vs, e, t, by unfold atI; rw [hl, hj]; exact hw⟩, f2⟩
        exact .inr (.inl ⟨p, vs, m, w', rfl, rw.1, t, hat, k w' H2 Z2 _ d0 x v (x1.trans x2) hσ he fo2 q2⟩)
      | lst mm xs =>
        cases mm with
        | false => exact False.elim q2
        | true =>
          obtain ⟨j, hj, x, hx, q2⟩ := q2
          obtain ⟨w', ⟨p, vs, rfl, t, hat⟩, fo2⟩ := fo.go (Pw := fun w' => ∃ p vs, u = .ref p ∧ H2 p = some (.lst vs) ∧ atI vs m = some w') fun Fe r => by
            obtain ⟨p, vs, w', e, t, hw, hl, f2⟩ := foc_lst r hx
            exact ⟨w', ⟨p, vs, e, t, by unfold atI; rw [hl, hj]; exact hw⟩, f2⟩
          exact .inl ⟨p, vs, m, w', rfl, rw.1, SqL.of t, hat, k w' H2 Z2 _ d0 x v (x1.trans x2) hσ he fo2 q2⟩
      | _ => exact False.elim q2
    | _ => exact False.elim (by unfold dPx at q2; split at q2 <;> simp_all)⟩⟩⟩
/-- an attribute -/
def dPf (f : Str) : D → ((D → D) → D → Prop) → Prop
  | .obj true c ns xs, Q => ∃ j, ns.findIdx? (· == f) = some j ∧ ∃ x, xs[j]? = some x ∧ Q (fun e' => .obj true c ns (xs.set j e')) x
  | _, _ => False
def pfl_ (f : Str) (tp : TPD) : TPD := fun env Q => tp env fun put d => dPf f d fun c x => Q (put ∘ c) x
/-- a list at a place is written -/
theorem Rel.foc_lstw {K : PySem.W.Frag} {e : En} {H : Hp} {Z : Addr → Prop} {σ : L2.St} {env : Env} {Fs : Nat → List Addr} (r : Rel K cs e H Z σ env Fs) {d : D} {v u : V} {put : D → D} {xs : List D} (hd : env[i]? = some (some d)) (hσ : σ[i]? = some (some v)) (f : Foc K cs H Z v (Fs i) (.lst true xs) u put) :
    ∃ p vs, u = .ref p ∧ H p = some (.lst vs) ∧ vs.length = xs.length ∧ ∀ (xs' : List D) (vs' : List V) (Fx : List Addr), (∀ a ∈ Fx, ¬ Z a ∧ (∃ o, H a = some o) ∧ (∀ j, a ∉ Fs j) ∧ (e.W a ∨ e.H0 a = none)) →
      (∀ F', RL K cs H Z xs vs F' → F'.Nodup → (∀ a ∈ F', a ∉ Fx) → ∃ F'', RL K cs H Z xs' vs' F'' ∧ F''.Nodup ∧ ∀ a ∈ F'', a ∈ F' ∨ a ∈ Fx) → ∃ Fs', Rel K cs e (upd H p (.lst vs')) Z σ (env.set i (some (put (.lst true xs')))) Fs' := by
  obtain ⟨Fe0, re0⟩ := f.here
  obtain ⟨p, vs, F0, rfl, t, rl0, _⟩ := re0
  refine ⟨p, vs, rfl, t, rl0.len, fun xs' vs' Fx hx hr => ?_⟩
  obtain ⟨Fs', r', _⟩ := r.foc_put (H' := upd H p (.lst vs')) (Z' := Z) (x' := .lst true xs') hd hσ f fun F1 Fe F2 hF nd hm re => by
    obtain ⟨q, ws, F', e1, t1, rl, hFe⟩ := re
    cases e1
    rw [t] at t1; cases t1
    subst hFe
    have inFs : ∀ a ∈ p :: F', a ∈ Fs i := fun a m => by rw [hF]; simp only [List.mem_append]; exact .inr (.inl m)
    have np := List.nodup_cons.mp nd
    obtain ⟨F'', rl2, nd2, h2⟩ := hr F' rl np.2 fun a m n => (hx a n).2.2.1 i (inFs a (List.mem_cons_of_mem _ m))
    have np2 : p ∉ F'' := fun m => by
      rcases h2 p m with m | m
      · exact np.1 m
      · exact (hx p m).2.2.1 i (inFs p List.mem_cons_self)
    refine ⟨p :: F'', ⟨p, vs', F'', rfl, upd_same, RL.writes rl2 t trivial np2 (hm p List.mem_cons_self).2.2.1, rfl⟩, fun _ z => z, fun _ z => .inl z, fun a o ho q => ?_, List.nodup_cons.mpr ⟨np2, nd2⟩, fun a m => ?_⟩
    · rw [upd_ne]
      · exact ho
      · intro w; subst w
        rw [t] at ho; cases ho
        rcases q with q | q
        · exact q List.mem_cons_self
        · exact q trivial
    · rcases List.mem_cons.mp m with rfl | m
      · exact ⟨(hm a List.mem_cons_self).2.2.1, .inl List.mem_cons_self⟩
      · rcases h2 a m with m | m
        · exact ⟨(hm a (List.mem_cons_of_mem _ m)).2.2.1, .inl (List.mem_cons_of_mem _ m)⟩
        · exact ⟨(hx a m).1, .inr (hx a m).2.2⟩
  exact ⟨Fs', r'⟩
/-- what an argument brings is new to the slots -/
theorem Rel.newto {K : PySem.W.Frag} {e : En} {H H' : Hp} {Z Z' : Addr → Prop} {σ : L2.St} {env : Env} {Fs : Nat → List Addr} (rl : Rel K cs e H Z σ env Fs) {d : D} {v : V} {F : List Addr} (r : R K cs H' Z' d v F) (fre : ∀ a ∈ F, H a = none ∧ ¬ Z' a) :
    ∀ a ∈ F, ¬ Z' a ∧ (∃ o, H' a = some o) ∧ (∀ j, a ∉ Fs j) ∧ (e.W a ∨ e.H0 a = none) := fun a m =>
  ⟨(fre a m).2, R.alloc d v F r a m, (fun j n => by
    obtain ⟨o, w⟩ := rl.alloc n
    rw [(fre a m).1] at w; cases w), rl.free0 (fre a m).1⟩
/-- P.append(e) -/
def papp_ (i : Nat) (tp : TPD) (ta : TED) : TSD := fun E env => tp env fun put d => ∃ xs, d = .lst true xs ∧ xs.length < sizeLine ∧ ta env fun x => E.nx (env.set i (some (put (.lst true (xs ++ [x])))))
theorem vs_papp (h : PE X a (tBM X.K "list" rAppend (tOfPa X.K cs i tp) (tCons (tOfT X.K cs ta) tNil))) (hs : swapsWith a none pos.line X.env = pure false := by rfl) : VS X cs L (.Expr a pos) (papp_ i tp ta) :=
  ⟨fun e hl => ps_weak (ps_expr h hs) fun D σ H ⟨env, Z, Fs, E, rl, q, ok⟩ => ⟨e, env, Z, Fs, rl, _, q, fun u H1 Z1 put d0 d v x1 hσ hd fo ⟨xs, ex, hz, q⟩ => by
    subst ex
    have rl1 := rl.ext x1
    obtain ⟨p, vs, rfl, t, hl1, _⟩ := rl1.foc_lstw hd hσ fo
    refine ⟨.inl ⟨rfl, vs, SqL.of t⟩, e, env, Z1, Fs, rl1, _, q, fun w H2 Z2 dx F x2 rw' nd fre z => ⟨p, vs, w, rfl, rfl, x2.same.at t, by rw [hl1]; exact hz, ?_⟩⟩
    have rl2 := rl1.ext x2
    obtain ⟨p2, vs2, e2, t2, hl2, up⟩ := rl2.foc_lstw hd hσ (fo.ext x2)
    cases e2
    rw [x2.same.at t] at t2; cases t2
    obtain ⟨Fs', r'⟩ := up (xs ++ [dx]) (vs ++ [w]) F (rl1.newto rw' fre) fun F' r nd' dj => ⟨F' ++ F, RL.app r (RL.one rw'), List.nodup_append.mpr ⟨nd', nd, fun a m b n e => by subst e; exact dj a m n⟩, fun a m => List.mem_append.mp m⟩
    exact ok.nx σ _ Z2 _ Fs' r' z⟩⟩
theorem RL.setw {K : PySem.W.Frag} {H : Hp} {Z : Addr → Prop} {x : D} {w : V} {Fx : List Addr} (rx : R K cs H Z x w Fx) (ndx : Fx.Nodup) : ∀ {xs : List D} {vs : List V} {F : List Addr} (j : Nat), RL K cs H Z xs vs F → F.Nodup → (∀ a ∈ F, a ∉ Fx) → ∃ F'', RL K cs H Z (xs.set j x) (vs.set j w) F'' ∧ F''.Nodup ∧ ∀ a ∈ F'', a ∈ F ∨ a ∈ Fx
  | [], vs, F, j, r, nd, _ => ⟨[], by rw [r.1]; exact ⟨rfl, rfl⟩, List.nodup_nil, fun a m => by cases m⟩
  | y :: ys, vs, F, 0, r, nd, dj => by
    obtain ⟨v, vs', F1, F2, rfl, r1, r2, rfl⟩ := r
    have n := List.nodup_append.mp nd
    exact ⟨Fx ++ F2, ⟨w, vs', Fx, F2, rfl, rx, r2, rfl⟩, List.nodup_append.mpr ⟨ndx, n.2.1, fun a m b k e => by subst e; exact dj a (List.mem_append_right _ k) m⟩, fun a m => (List.mem_append.mp m).elim .inr fun m => .inl (List.mem_append_right _ m)⟩
  | y :: ys, vs, F, j + 1, r, nd, dj => by
    obtain ⟨v, vs', F1, F2, rfl, r1, r2, rfl⟩ := r
    have n := List.nodup_append.mp nd
    obtain ⟨G, rg, ndg, hg⟩ := RL.setw rx ndx j r2 n.2.1 fun a m => dj a (List.mem_append_right _ m)
    refine ⟨F1 ++ G, ⟨v, vs'.set j w, F1, G, rfl, r1, rg, rfl⟩, List.nodup_append.mpr ⟨n.1, ndg, fun a m b k e => ?_⟩, fun a m => ?_⟩
    · subst e
      rcases hg a k with k | k
      · exact n.2.2 a m a k rfl
      · exact dj a (List.mem_append_left _ m) k
    · rcases List.mem_append.mp m with m | m
      · exact .inl (List.mem_append_left _ m)
      · exact (hg a m).imp_left (List.mem_append_right _)
/-- P[i] = e -/
def pset_ (i : Nat) (tp : TPD) (tb : TED) (ta : TED) : TSD := fun E env => ta env fun x => tp env fun put d => tb env fun k => ∃ xs, d = .lst true xs ∧ ∃ m, k = .int m ∧ ∃ j, ixN xs.length m = some j ∧ E.nx (env.set i (some (put (.lst true (xs.set j x)))))
theorem vs_pset {o k : Expr} {p1 : Pos} (ha : VT X cs a ta) (ho : VPa X cs i o tp) (hb : VP X cs k tb) (hs : swapsWithSole [.Subscript o k p1] a pos.line X.env = pure false := by rfl) (hw : swappedStores [.Subscript o k p1] a X.env = pure none := by rfl)
    (h1 : (assignEach [.Subscript o k p1] X.env).map (·.2) = [assign (.Subscript o k p1) X.env] := by rfl)
    (h2 : ∀ v, assign (.Subscript o k p1) X.env v = (do
      let ov ← holding [v] (eval o X.env)
      let iv ← holding [v, ov] (eval k X.env)
      standAt p1
      holding [v, ov, iv] (setItem ov iv v)
      release [v, ov, iv] []) := by intro _; rfl) : VS X cs L (.Assign [.Subscript o k p1] a pos) (pset_ i tp tb ta) :=
  ⟨fun e hl => ps_weak (ps_asg ha.run (pg_sub ho.run hb.run set_list h2) hs hw h1) fun D σ H ⟨env, Z, Fs, E, rl, q, ok⟩ => ⟨e, env, Z, Fs, rl, _, q, fun w H1 Z1 dx F x1 rx nd fre q => by
    have rl1 := rl.ext x1
    refine ⟨e, env, Z1, Fs, rl1, _, q, fun u H2 Z2 put d0 d v x2 hσ hd fo q => ?_⟩
    have rl2 := rl1.ext x2
    refine ⟨e, env, Z2, Fs, rl2, _, q, fun kv H3 Z3 dk Fk x3 rk ⟨xs, ex, m, ek, j, hj, q5⟩ => ?_⟩
    subst ex; subst ek
    have rl3 := rl2.ext x3
    obtain ⟨p, vs, rfl, t, hl1, up⟩ := rl3.foc_lstw hd hσ (fo.ext x3)
    have x23 := x2.trans x3
    have nw := rl.newto rx fre
    have nw3 : ∀ a ∈ F, ¬ Z3 a ∧ (∃ o, H3 a = some o) ∧ (∀ j, a ∉ Fs j) ∧ (e.W a ∨ e.H0 a = none) := fun a m => by
      obtain ⟨o, w⟩ := (nw a m).2.1
      refine ⟨fun z => ?_, x23.same.there _ o w, (nw a m).2.2⟩
      rcases x23.new a z with z | ⟨z, _⟩
      · exact (nw a m).1 z
      · rw [z] at w; cases w
    obtain ⟨Fs', r'⟩ := up (xs.set j dx) (vs.set j w) F nw3 fun F' r nd' dj => RL.setw (rx.ext x23) nd j r nd' dj
    exact ⟨p, vs, m, j, rfl, rk.1, t, by rw [hl1]; exact hj, ok.nx σ _ Z3 _ Fs' r' q5⟩⟩⟩
/-- x = P: the part is moved -/
def pmv_ (j i : Nat) (tp : TPD) : TSD := fun E env => tp env fun put d => E.nx ((env.set i (some (put .opq))).set j (some d))
end
end VL
set_option maxHeartbeats 2000000
namespace VL
open PySem L2 PyProof.Rows
section
variable {K : PySem.W.Frag} {cs : Cs}
/-! ### is None; texts in order; a list or a text again and again -/
def nonD : D → Bool
  | .non => true
  | _ => false
def dIs (neg : Bool) (x y : D) (Q : D → Prop) : Prop := x ≠ .opq ∧ y = .non ∧ Q (.bl (if neg then !nonD x else nonD x))
theorem non_iff {H : Hp} {Z : Addr → Prop} {x : D} {v : V} {F : List Addr} (hx : x ≠ .opq) (r : R K cs H Z x v F) : decide (v = .non) = nonD x := by
  cases x with
  | non => rw [r.1]; rfl
  | bl b => rw [r.1]; rfl
  | int i => rw [r.1]; rfl
  | str s => rw [r.1]; rfl
  | tup xs => obtain ⟨a, vs, rfl, _⟩ := r; rfl
  | lst m xs => obtain ⟨a, vs, F', rfl, _⟩ := R.lstv r; rfl
  | dic m ks xs =>
    cases m with
    | true => obtain ⟨a, vs, F', rfl, _⟩ := r; rfl
    | false => obtain ⟨a, vs, rfl, _⟩ := r; rfl
  | dit m ks xs =>
    cases m with
    | true => obtain ⟨a, _, _, vs, F', rfl, _⟩ := r; rfl
    | false => obtain ⟨a, _, _, vs, rfl, _⟩ := r; rfl
  | obj m c ns xs => obtain ⟨a, dx, ci, vs, F', rfl, _⟩ := R.objv r; rfl
  | opq => exact absurd rfl hx
  | «at» a _ => rw [r.1]; rfl
theorem od_isn : OD K cs rIsN (dIs false) := by
  intro H Z Q QD x y v w F G za rx ry q k
  obtain ⟨hx, rfl, q⟩ := q
  exact ⟨ry.1, fin_at (d := .bl _) k ⟨rfl, rfl⟩ (by rw [non_iff hx rx]; exact q)⟩
def dLtS : D → D → (D → Prop) → Prop
  | .str i, .str j, Q => Q (.bl (decide (i.cps.toList < j.cps.toList)))
  | _, _, _ => False
def dLeS : D → D → (D → Prop) → Prop
  | .str i, .str j, Q => Q (.bl (!decide (j.cps.toList < i.cps.toList)))
  | _, _, _ => False
/-- a list by a number -/
def dRep : D → D → (D → Prop) → Prop
  | .lst true xs, .int i, Q => noOwnL xs = true ∧ -(2 ^ 63) ≤ i ∧ i < 2 ^ 63 ∧ xs.length * i.toNat ≤ sizeLine ∧ Q (.lst true (List.replicate i.toNat xs).flatten)
  | _, _, _ => False
theorem RL.rep {H : Hp} {Z : Addr → Prop} {xs : List D} {vs : List V} (r : RL K cs H Z xs vs []) : ∀ k : Nat, RL K cs H Z (List.replicate k xs).flatten (List.replicate k vs).flatten []
  | 0 => ⟨rfl, rfl⟩
  | k + 1 => by
    rw [List.replicate_succ, List.replicate_succ, List.flatten_cons, List.flatten_cons]
    exact RL.app0 r (RL.rep r k)
theorem od_rep : OD K cs rRep dRep := by
  intro H Z Q QD x y v w F G za rx ry q k
  cases x with
  | lst m xs =>
    cases m with
    | false => cases y <;> exact False.elim q
    | true =>
      cases y with
      | int i =>
        obtain ⟨n, h1, h2, h3, q⟩ := q
        obtain ⟨a, vs, F', rfl, t, r, _⟩ := rx
        have r0 := RL.noF0 r n
        exact ⟨a, i, vs, rfl, ry.1, t, h1, h2, by rw [r.len]; exact h3, fun p hp => fin_lst za k hp (RL.rep r0 _) q⟩
      | _ => exact False.elim q
  | _ => cases y <;> exact False.elim q
end
section
variable {X : Cx} {cs : Cs} {tg a : Expr} {pos : Pos} {ta : TED}
/-- reversed -/
def rev_ (ta : TED) : TAD := fun env Q => ta env fun d => match d with
  | .lst _ xs => Q (frzL xs).reverse
  | .tup xs => Q (frzL xs).reverse
  | _ => False
end
/-! ### lemmas for the proofs over data -/
theorem ixN_nat {n j : Nat} (h : j < n) : ixN n (j : Int) = some j := by
  unfold ixN
  rw [if_pos (by omega), if_pos (by omega)]; simp
theorem ixN_int {n : Nat} {j : Int} (h0 : 0 ≤ j) (h : j < n) : ixN n j = some j.toNat := by
  unfold ixN
  rw [if_pos h0, if_pos h]
theorem ixN_0 {n : Nat} : ixN (n + 1) 0 = some 0 := ixN_nat (j := 0) (by omega)
theorem ixN_1 {n : Nat} : ixN (n + 2) 1 = some 1 := ixN_nat (j := 1) (by omega)
theorem ixN_2 {n : Nat} : ixN (n + 3) 2 = some 2 := ixN_nat (j := 2) (by omega)
theorem ixN_3 {n : Nat} : ixN (n + 4) 3 = some 3 := ixN_nat (j := 3) (by omega)
theorem lc_rng1 {i : Nat} {u : TAD} {te : TED} {env : Env} {Q : D → Prop} {j : Int} (hu : ∀ Q : List D → Prop, Q [.int j] → u env Q) (h1 : -(2 ^ 62) ≤ j) (h2 : j ≤ 16777216) (g : Nat → D)
    (h : ∀ k : Nat, (k : Int) < j → te (env.set i (some (.int k))) fun y => y = g k) (q : Q (.lst true ((List.range j.toNat).map g))) : lc_ i (rng1_ u) yes_ te env Q := by
  refine hu _ ⟨h1, by omega, ?_⟩
  have e : rngD 0 j.toNat = (List.range j.toNat).map fun k : Nat => D.int k := by
    unfold rngD
    exact List.map_congr_left fun k _ => by rw [Int.zero_add]
  rw [e]
  refine lc_map (List.range j.toNat) (fun k : Nat => D.int k) (fun _ => true) g (fun a b h => by injection h with h; omega) (fun n m => rfl) (fun n m _ => h n (by rw [List.mem_range] at m; omega)) (by rw [size_line, List.length_range]; omega) ?_
  rw [List.filter_eq_self.mpr (fun _ _ => rfl)]
  exact q
theorem lc_rng1p {i : Nat} {u : TAD} {tt : TTD} {te : TED} {env : Env} {Q : D → Prop} {j : Int} (hu : ∀ Q : List D → Prop, Q [.int j] → u env Q) (h1 : -(2 ^ 62) ≤ j) (h2 : j ≤ 16777216) (p : Nat → Bool) (g : Nat → D)
    (ht : ∀ k : Nat, (k : Int) < j → tt (env.set i (some (.int k))) fun b => b = p k) (h : ∀ k : Nat, (k : Int) < j → p k = true → te (env.set i (some (.int k))) fun y => y = g k) (q : Q (.lst true (((List.range j.toNat).filter p).map g))) : lc_ i (rng1_ u) tt te env Q := by
  refine hu _ ⟨h1, by omega, ?_⟩
  have e : rngD 0 j.toNat = (List.range j.toNat).map fun k : Nat => D.int k := by
    unfold rngD
    exact List.map_congr_left fun k _ => by rw [Int.zero_add]
  rw [e]
  exact lc_map (List.range j.toNat) (fun k : Nat => D.int k) p g (fun a b h => by injection h with h; omega) (fun n m => ht n (by rw [List.mem_range] at m; omega)) (fun n m hp => h n (by rw [List.mem_range] at m; omega) hp) (by rw [size_line, List.length_range]; omega) q
theorem ix_str {z : Str} {k : Int} {P : Nat → Prop} (hz : z.length ≤ 16777216) (h0 : 0 ≤ k) (h1 : k < z.length) (q : P (z.cps.toList.getD k.toNat 0)) : z.length ≤ 16777216 ∧ ∃ c, atI z.cps.toList k = some c ∧ P c :=
  ⟨hz, _, atI_pos h0 (by rw [Array.length_toList]; exact h1) 0, q⟩
theorem isT_id (m : Bool) (ks : List Key) (vs : List D) : isT .int (.dic m ks vs) = false := rfl
theorem isT_ie (m : Bool) (ks : List NestedKey) (vs : List D) : isT .int (.dit m ks vs) = false := rfl
theorem isT_bs (s : Str) : isT .bool (.str s) = false := rfl
theorem isT_bl (m : Bool) (xs : List D) : isT .bool (.lst m xs) = false := rfl
theorem isT_bt (xs : List D) : isT .bool (.tup xs) = false := rfl
theorem isT_bn  : isT .bool .non = false := rfl
theorem isT_bd (m : Bool) (ks : List Key) (vs : List D) : isT .bool (.dic m ks vs) = false := rfl
theorem isT_be (m : Bool) (ks : List NestedKey) (vs : List D) : isT .bool (.dit m ks vs) = false := rfl
theorem isT_si (i : Int) : isT .str (.int i) = false := rfl
theorem isT_sb (b : Bool) : isT .str (.bl b) = false := rfl
theorem isT_sl (m : Bool) (xs : List D) : isT .str (.lst m xs) = false := rfl
theorem isT_st (xs : List D) : isT .str (.tup xs) = false := rfl
theorem isT_sn  : isT .str .non = false := rfl
theorem isT_sd (m : Bool) (ks : List Key) (vs : List D) : isT .str (.dic m ks vs) = false := rfl
theorem isT_se (m : Bool) (ks : List NestedKey) (vs : List D) : isT .str (.dit m ks vs) = false := rfl
theorem isT_lb (b : Bool) : isT .list (.bl b) = false := rfl
theorem isT_ls (s : Str) : isT .list (.str s) = false := rfl
theorem isT_ld (m : Bool) (ks : List Key) (vs : List D) : isT .list (.dic m ks vs) = false := rfl
theorem isT_le (m : Bool) (ks : List NestedKey) (vs : List D) : isT .list (.dit m ks vs) = false := rfl
theorem isT_ti (i : Int) : isT .tuple (.int i) = false := rfl
theorem isT_tb (b : Bool) : isT .tuple (.bl b) = false := rfl
theorem isT_ts (s : Str) : isT .tuple (.str s) = false := rfl
theorem isT_td (m : Bool) (ks : List Key) (vs : List D) : isT .tuple (.dic m ks vs) = false := rfl
theorem isT_te (m : Bool) (ks : List NestedKey) (vs : List D) : isT .tuple (.dit m ks vs) = false := rfl
theorem isT_di (i : Int) : isT .dict (.int i) = false := rfl
theorem isT_db (b : Bool) : isT .dict (.bl b) = false := rfl
theorem isT_ds (s : Str) : isT .dict (.str s) = false := rfl
theorem isT_dl (m : Bool) (xs : List D) : isT .dict (.lst m xs) = false := rfl
theorem isT_dt (xs : List D) : isT .dict (.tup xs) = false := rfl
theorem isT_dn  : isT .dict .non = false := rfl
theorem isT_dd (m : Bool) (ks : List Key) (vs : List D) : isT .dict (.dic m ks vs) = true := rfl
theorem isT_de (m : Bool) (ks : List NestedKey) (vs : List D) : isT .dict (.dit m ks vs) = true := rfl
theorem plain_d (m : Bool) (ks : List Key) (vs : List D) : plainD (.dic m ks vs) = true := rfl
theorem plain_e (m : Bool) (ks : List NestedKey) (vs : List D) : plainD (.dit m ks vs) = false := rfl
/-- over a list of data; the invariant by the part that is done -/
theorem for_pre {α : Type} {i : Nat} {ti : TAD} {tb : TSD} {E : EndsD} {env : Env} (f : α → D) {xs : List α} (hu : ∀ Q : List D → Prop, Q (xs.map f) → ti env Q) (Pv : List α → Env → Prop) (h0 : Pv [] env)
    (hs : ∀ pre x post env', xs = pre ++ x :: post → Pv pre env' → tb { nx := Pv (pre ++ [x]), ct := Pv (pre ++ [x]), bk := E.nx, rt := E.rt, ex := E.ex } (env'.set i (some (f x)))) (hd : ∀ env', Pv xs env' → E.nx env') : for_ i ti tb E env := by
  refine for_map f hu (fun k env' => Pv (xs.take k) env') (by simpa using h0) (fun k x env' h pv => ?_) fun env' pv => hd env' (by rwa [List.take_length] at pv)
  have hk := (List.getElem?_eq_some_iff.mp h).1
  have e : xs = xs.take k ++ x :: xs.drop (k + 1) := by
    have hx : xs[k] = x := by
      have := List.getElem?_eq_getElem hk
      rw [h] at this
      exact (Option.some.inj this).symm
    rw [← hx, List.getElem_cons_drop, List.take_append_drop]
  have := hs (xs.take k) x (xs.drop (k + 1)) env' e pv
  have e2 : xs.take (k + 1) = xs.take k ++ [x] := by rw [List.take_add_one, h]; rfl
  rw [e2]
  exact this
end VL
set_option maxHeartbeats 2000000
namespace VL
open PySem L2 PyProof.Rows
/-! ### defs that change what they are handed -/
section
variable {K : PySem.W.Frag} {cs : Cs} {H H' : Hp} {Z Z' : Addr → Prop}
theorem RL.parts : ∀ {ds : List D} {vs : List V} {F : List Addr}, RL K cs H Z ds vs F → ∃ Fs : Nat → List Addr, F = (List.range ds.length).flatMap Fs ∧ ∀ (i : Nat) d v, ds[i]? = some d → vs[i]? = some v → R K cs H Z d v (Fs i)
  | [], vs, F, r => ⟨fun _ => [], by rw [r.2]; rfl, fun i d v h => by simp at h⟩
  | x :: xs, vs, F, r => by
    obtain ⟨v, vs', F1, F2, rfl, r1, r2, rfl⟩ := r
    obtain ⟨Fs, rfl, h⟩ := RL.parts r2
    refine ⟨fun i => match i with | 0 => F1 | i + 1 => Fs i, ?_, fun i d w h1 h2 => ?_⟩
    · rw [List.length_cons, List.range_succ_eq_map, List.flatMap_cons, List.flatMap_map]
    · cases i with
      | zero => simp at h1 h2; subst h1; subst h2; exact r1
      | succ i => exact h i d w (by simpa using h1) (by simpa using h2)
theorem RL.of_parts : ∀ {ds : List D} {vs : List V} {G : Nat → List Addr}, ds.length = vs.length → (∀ (i : Nat) d v, ds[i]? = some d → vs[i]? = some v → R K cs H Z d v (G i)) → RL K cs H Z ds vs ((List.range ds.length).flatMap G)
  | [], [], G, _, _ => ⟨rfl, rfl⟩
  | x :: xs, [], G, l, _ => by simp at l
  | [], y :: ys, G, l, _ => by simp at l
  | x :: xs, y :: ys, G, l, h => by
    refine ⟨y, ys, G 0, _, rfl, h 0 x y rfl rfl, RL.of_parts (G := fun i => G (i + 1)) (by simpa using l) fun i d v h1 h2 => h (i + 1) d v (by simpa using h1) (by simpa using h2), ?_⟩
    rw [List.length_cons, List.range_succ_eq_map, List.flatMap_cons, List.flatMap_map]
theorem nodup_fm {α β : Type} {f : α → List β} : ∀ {l : List α}, l.Nodup → (l.flatMap f).Nodup → (∀ i ∈ l, (f i).Nodup) ∧ ∀ i ∈ l, ∀ j ∈ l, i ≠ j → ∀ a ∈ f i, a ∉ f j
  | [], _, _ => ⟨fun i m => (by cases m), fun i m => (by cases m)⟩
  | x :: xs, hl, h => by
    rw [List.flatMap_cons] at h
    obtain ⟨h1, h2, h3⟩ := List.nodup_append.mp h
    obtain ⟨k1, k2⟩ := nodup_fm (List.nodup_cons.mp hl).2 h2
    refine ⟨fun i m => ?_, fun i mi j mj ne a ma mb => ?_⟩
    · rcases List.mem_cons.mp m with rfl | m
      · exact h1
      · exact k1 i m
    · rcases List.mem_cons.mp mi with e1 | mi'
      · rcases List.mem_cons.mp mj with e2 | mj'
        · exact ne (e1.trans e2.symm)
        · subst e1
          exact h3 a ma a (List.mem_flatMap.mpr ⟨j, mj', mb⟩) rfl
      · rcases List.mem_cons.mp mj with e2 | mj'
        · subst e2
          exact h3 a mb a (List.mem_flatMap.mpr ⟨i, mi', ma⟩) rfl
        · exact k2 i mi' j mj' ne a ma mb
theorem fm_nodup {α β : Type} {f : α → List β} : ∀ {l : List α}, l.Nodup → (∀ i ∈ l, (f i).Nodup) → (∀ i ∈ l, ∀ j ∈ l, i ≠ j → ∀ a ∈ f i, a ∉ f j) → (l.flatMap f).Nodup
  | [], _, _, _ => List.nodup_nil
  | x :: xs, hl, h1, h2 => by
    rw [List.flatMap_cons]
    have hx := List.nodup_cons.mp hl
    refine List.nodup_append.mpr ⟨h1 x List.mem_cons_self, fm_nodup hx.2 (fun i m => h1 i (List.mem_cons_of_mem _ m)) fun i mi j mj => h2 i (List.mem_cons_of_mem _ mi) j (List.mem_cons_of_mem _ mj), fun a m b n e => ?_⟩
    subst e
    obtain ⟨j, mj, n⟩ := List.mem_flatMap.mp n
    exact h2 x List.mem_cons_self j (List.mem_cons_of_mem _ mj) (fun e => hx.1 (e ▸ mj)) a m n
end
abbrev SpM := List D → (D → List D → Prop) → Prop
/-- the promise of a def that changes its arguments at the places io -/
def spOfM (K : PySem.W.Frag) (cs : Cs) (io : List Nat) (s : SpM) : Sp := fun vs H Q _ => LamX.Tabs cs.tb H ∧ ∃ Z ds F, (∀ a, Z a → ∃ o, H a = some o) ∧ RL K cs H Z ds vs F ∧ F.Nodup ∧ (∀ a ∈ F, ¬ Z a) ∧ (∀ (i : Nat) d, ds[i]? = some d → i ∉ io → noOwn d = true) ∧ ∃ QD, s ds QD ∧
  ∀ v H' Z' r ds' Fr F', (∀ a, Z a → Z' a) → (∀ a, Z' a → Z a ∨ a ∈ F ∨ H a = none) → (∀ a, Z' a → ∃ o, H' a = some o) → (∀ a o, H a = some o → NT o → a ∉ F → H' a = some o) → (∀ a o, H a = some o → a ∉ F → ∃ o', H' a = some o') → LamX.Tabs cs.tb H' → RL K cs H' Z' ds' vs F' → R K cs H' Z' r v Fr → (F' ++ Fr).Nodup → (∀ a ∈ F' ++ Fr, ¬ Z' a ∧ (a ∈ F ∨ H a = none)) → QD r ds' → Q v H'
/-- the arguments behind -/
def backD (io : List Nat) (env : Env) : Nat → List D → Option (List D)
  | _, [] => some []
  | i, d :: ds => if i ∈ io then (match env[i]? with
    | some (some d') => (backD io env (i + 1) ds).map (d' :: ·)
    | _ => none) else (backD io env (i + 1) ds).map (d :: ·)
theorem backD_get {io : List Nat} {env : Env} : ∀ {ds ds' : List D} {k : Nat}, backD io env k ds = some ds' → ds'.length = ds.length ∧ ∀ (i : Nat) d, ds'[i]? = some d → (k + i ∈ io ∧ env[k + i]? = some (some d)) ∨ (k + i ∉ io ∧ ds[i]? = some d)
  | [], ds', k, h => by
    have h : some [] = some ds' := h
    cases h
    exact ⟨rfl, fun i d h => by simp at h⟩
  | x :: xs, ds', k, h => by
    unfold backD at h
    split at h
    · rename_i hk
      split at h
      · rename_i y hy
        cases e : backD io env (k + 1) xs with
        | none => rw [e] at h; cases h
        | some t =>
          rw [e] at h; cases h
          obtain ⟨h1, h2⟩ := backD_get e
          refine ⟨by simp [h1], fun i d hd => ?_⟩
          cases i with
          | zero => simp at hd; subst hd; exact .inl ⟨by simpa using hk, by simpa using hy⟩
          | succ i =>
            have := h2 i d (by simpa using hd)
            rw [show k + 1 + i = k + (i + 1) by omega] at this
            simpa using this
      · cases h
    · rename_i hk
      cases e : backD io env (k + 1) xs with
      | none => rw [e] at h; cases h
      | some t =>
        rw [e] at h; cases h
        obtain ⟨h1, h2⟩ := backD_get e
        refine ⟨by simp [h1], fun i d hd => ?_⟩
        cases i with
        | zero => simp at hd; subst hd; exact .inr ⟨by simpa using hk, rfl⟩
        | succ i =>
          have := h2 i d (by simpa using hd)
          rw [show k + 1 + i = k + (i + 1) by omega] at this
          simpa using this
section
variable {X : Cx} {cs : Cs}
theorem start_get {N : List Str} {vs : List V} {i : Nat} {v : V} (h : vs[i]? = some v) : (L2.start N vs)[i]? = some (some v) := by
  unfold L2.start
  have hi := (List.getElem?_eq_some_iff.mp h).1
  rw [List.getElem?_append_left (by simpa using hi), List.getElem?_map, h]; rfl
theorem env0_get {n : Nat} {ds : List D} {i : Nat} {d : D} (h : (env0 n ds)[i]? = some (some d)) : ds[i]? = some d := by
  unfold env0 at h
  by_cases hi : i < ds.length
  · rw [List.getElem?_append_left (by simpa using hi), List.getElem?_map] at h
    cases e : ds[i]? with
    | none => rw [e] at h; cases h
    | some x => rw [e] at h; cases h; rfl
  · rw [List.getElem?_append_right (by simpa using hi), List.getElem?_replicate] at h
    split at h <;> cases h
theorem fn_io {P : Program} {w : World} {K : PySem.W.Frag} {mg : Str → Option Value} {base : Heap} {x qual : Str} {st : Stmt} {f : Addr} {fd : FuncData} {N ps : List Str} {k : Nat} {s : SpM} {t : TSD} (io : List Nat) (F : Fun K x qual st f fd) (S : FnScope N ps (defScope st))
    (len : ∀ ds Q, s ds Q → ds.length = ps.length)
    (body : ∀ (cdv : Value) (A : Around) (outer : List PySem.Env) (s : Shared) (H : Hp) (E : XK), Room k (A.deeper (envOfC qual (defScope st) s.heap.objs.size f cdv)) → VSs (cxOf CX0 P w K mg base N qual (defScope st) f cdv A outer s H E).nox cs io (defBody st) t)
    (law : ∀ ds Q, s ds Q → t { nx := fun env => ∃ ds', backD io env 0 ds = some ds' ∧ Q .non ds', rt := fun d env => ∃ ds', backD io env 0 ds = some ds' ∧ Q d ds' } (env0 N.length ds)) : FnOk P w K mg base CX0 (k + 1) f fd ps (spOfM K cs io s) := by
  refine F.ok S (fun vs H Q E ⟨_, Z, ds, F, za, r, _, _, _, QD, h, _⟩ => ?_) fun cdv A outer sh H vs Q E hr ⟨tb, Z, ds, F, za, r, nd, nz, no, QD, h, fin⟩ => ?_
  · rw [r.len]; exact len ds QD h
  · obtain ⟨Fs, hF, hR⟩ := RL.parts r
    have lv := r.len
    have rngnd : (List.range ds.length).Nodup := List.nodup_range
    rw [hF] at nd
    obtain ⟨nd1, nd2⟩ := nodup_fm rngnd nd
    have inF : ∀ i a, i < ds.length → a ∈ Fs i → a ∈ F := fun i a hi m => by rw [hF]; exact List.mem_flatMap.mpr ⟨i, List.mem_range.mpr hi, m⟩
    let G : Nat → List Addr := fun i => if i < ds.length then Fs i else []
    have hG : ∀ i a, a ∈ G i → i < ds.length ∧ a ∈ Fs i := fun i a m => by
      have m : a ∈ (if i < ds.length then Fs i else []) := m
      split at m
      · exact ⟨by assumption, m⟩
      · cases m
    have vget : ∀ i d, ds[i]? = some d → ∃ v, vs[i]? = some v := fun i d hd => by
      have hi := (List.getElem?_eq_some_iff.mp hd).1
      exact ⟨vs[i]'(by omega), List.getElem?_eq_getElem _⟩
    have noF : ∀ i d v, ds[i]? = some d → vs[i]? = some v → i ∉ io → R K cs H Z d v [] := fun i d v h1 h2 h3 => by
      have := hR i d v h1 h2
      rw [R.noF d v _ (no i d h1 h3) this] at this
      exact this
    let ioL : List (Nat × V) := (List.range ds.length).filterMap fun i => if i ∈ io then vs[i]?.map fun v => (i, v) else none
    let gsL : List (D × V) := (List.range ds.length).filterMap fun i => if i ∈ io then none else match ds[i]?, vs[i]? with
      | some d, some v => some (d, v)
      | _, _ => none
    have hio : ∀ p ∈ ioL, p.1 ∈ io ∧ vs[p.1]? = some p.2 := fun p m => by
      obtain ⟨i, _, e⟩ := List.mem_filterMap.mp m
      split at e
      · cases q : vs[i]? with
        | none => rw [q] at e; cases e
        | some v => rw [q] at e; cases e; exact ⟨by assumption, q⟩
      · cases e
    have mio : ∀ i v, i ∈ io → vs[i]? = some v → (i, v) ∈ ioL := fun i v h1 h2 => by
      have hi := (List.getElem?_eq_some_iff.mp h2).1
      exact List.mem_filterMap.mpr ⟨i, List.mem_range.mpr (by omega), by rw [if_pos h1, h2]; rfl⟩
    have hgs : ∀ p ∈ gsL, ∃ i, i ∉ io ∧ ds[i]? = some p.1 ∧ vs[i]? = some p.2 := fun p m => by
      obtain ⟨i, _, e⟩ := List.mem_filterMap.mp m
      split at e
      · cases e
      · rename_i hn
        split at e
        · rename_i d v h1 h2
          cases e; exact ⟨i, hn, h1, h2⟩
        · cases e
    have mgs : ∀ i d v, i ∉ io → ds[i]? = some d → vs[i]? = some v → (d, v) ∈ gsL := fun i d v h1 h2 h3 => by
      have hi := (List.getElem?_eq_some_iff.mp h2).1
      exact List.mem_filterMap.mpr ⟨i, List.mem_range.mpr hi, by rw [if_neg h1, h2, h3]⟩
    have rl0 : Rel K cs ⟨H, Z, fun a => a ∈ F, ioL, gsL⟩ H Z (L2.start N vs) (env0 N.length ds) G := by
      refine ⟨fun i d hd => ?_, fun i hn => ?_, fun i => ?_, fun i j a ij m => ?_, fun i a m => ?_, za, fun i a m => ?_, fun a o h _ _ => h, fun a o h => .inr ⟨o, h⟩, tb, fun a z => z, fun a z => Or.inl z, fun p m => ?_, fun p m => ?_, ?_⟩
      · have hd := env0_get hd
        obtain ⟨v, hv⟩ := vget i d hd
        refine ⟨v, start_get hv, ?_⟩
        have hi := (List.getElem?_eq_some_iff.mp hd).1
        show R K cs H Z d v (if i < ds.length then Fs i else [])
        rw [if_pos hi]
        exact hR i d v hd hv
      · show (if i < ds.length then Fs i else []) = []
        by_cases hi : i < ds.length
        · refine absurd ?_ (hn ds[i])
          unfold env0
          rw [List.getElem?_append_left (by simpa using hi), List.getElem?_map, List.getElem?_eq_getElem hi]; rfl
        · rw [if_neg hi]
      · show (if i < ds.length then Fs i else []).Nodup
        split
        · exact nd1 i (List.mem_range.mpr (by assumption))
        · exact List.nodup_nil
      · obtain ⟨hi, m⟩ := hG i a m
        intro n
        obtain ⟨hj, n⟩ := hG j a n
        exact nd2 i (List.mem_range.mpr hi) j (List.mem_range.mpr hj) ij a m n
      · obtain ⟨hi, m⟩ := hG i a m
        exact nz a (inF i a hi m)
      · obtain ⟨hi, m⟩ := hG i a m
        exact .inl (inF i a hi m)
      · exact start_get (hio p m).2
      · obtain ⟨i, h1, h2, h3⟩ := hgs p m
        exact noF i p.1 p.2 h2 h3 h1
      · unfold L2.start env0
        simp [lv]
    have out : ∀ (v : V) (σ : L2.St) (H' : Hp) (Z' : Addr → Prop) (env : Env) (Fs' : Nat → List Addr) (d : D) (Fd : List Addr), Rel K cs ⟨H, Z, fun a => a ∈ F, ioL, gsL⟩ H' Z' σ env Fs' → R K cs H' Z' d v Fd → Fd.Nodup → (∀ a ∈ Fd, ¬ Z' a ∧ (a ∈ F ∨ H a = none) ∧ ∀ i, a ∉ Fs' i) →
        (∃ ds', backD io env 0 ds = some ds' ∧ QD d ds') → Q v H' := by
      intro v σ H' Z' env Fs' d Fd rl rd ndd hFd ⟨ds', hb, q⟩
      obtain ⟨bl, bg⟩ := backD_get hb
      have RLd : RL K cs H' Z' ds' vs ((List.range ds'.length).flatMap fun i => if i ∈ io then Fs' i else []) := RL.of_parts (by rw [bl, lv]) fun i d v h1 h2 => by
        rcases bg i d h1 with ⟨h3, h4⟩ | ⟨h3, h4⟩
        · rw [Nat.zero_add] at h3 h4
          rw [if_pos h3]
          obtain ⟨u, g1, g2⟩ := rl.slot i d h4
          have := rl.io (i, v) (mio i v h3 h2)
          rw [g1] at this
          cases this
          exact g2
        · rw [Nat.zero_add] at h3
          rw [if_neg h3]
          exact rl.gs (d, v) (mgs i d v h3 h4 h2)
      have mF' : ∀ a, a ∈ ((List.range ds'.length).flatMap fun i => if i ∈ io then Fs' i else []) → ∃ i, a ∈ Fs' i := fun a m => by
        obtain ⟨i, _, m⟩ := List.mem_flatMap.mp m
        split at m
        · exact ⟨i, m⟩
        · cases m
      refine fin v H' Z' d ds' Fd _ rl.z0 (fun a z => (rl.z1 a z).imp_right fun w => w.elim .inr .inl) rl.za (fun a o h nt n => rl.fr a o h nt n) (fun a o h n => (rl.th a o h).elim (fun w => absurd w n) id) rl.tb RLd rd (List.nodup_append.mpr ⟨fm_nodup List.nodup_range (fun i _ => ?_) (fun i _ j _ ij a m n => ?_), ndd, fun a m b n e => ?_⟩) (fun a m => ?_) q
      · split
        · exact rl.nd i
        · exact List.nodup_nil
      · split at m
        · split at n
          · exact rl.dj i j a ij m n
          · cases n
        · cases m
      · subst e
        obtain ⟨i, m⟩ := mF' a m
        exact (hFd a n).2.2 i m
      · rcases List.mem_append.mp m with m | m
        · obtain ⟨i, m⟩ := mF' a m
          exact ⟨rl.dz i a m, rl.own i a m⟩
        · exact ⟨(hFd a m).1, (hFd a m).2.1⟩
    refine ⟨_, (body cdv A outer sh H E hr).run ⟨H, Z, fun a => a ∈ F, ioL, gsL⟩ (fun p m => (hio p m).1), env0 N.length ds, Z, G, _, rl0, law ds QD h, fun σ H' Z' env Fs rl q => ?_, fun _ _ _ _ _ _ q => q, fun _ _ _ _ _ _ q => q, fun v σ H' Z' env Fs d Fd rl rd nd hF q => ?_⟩
    · exact out .non σ H' Z' env Fs .non [] rl ⟨rfl, rfl⟩ List.nodup_nil (fun a m => by cases m) q
    · exact out v σ H' Z' env Fs d Fd rl rd nd hF q
end
/-! ### attributes that are stored -/
def classFields : List (Str × List Str) := [("Tree", ["kinds", "elders", "starts"]), ("Chart", ["boxes", "names", "tree", "ins", "outs", "ways"]), ("Runner", ["boxes", "book"]),
  ("FlatRun", ["boxes", "book", "table", "place", "been"]), ("NestRun", ["boxes", "book", "chart", "opens", "mind"]), ("Table", ["boxes", "signs", "begin", "flats", "rows"])]
def fieldsOf (c : Str) : List Str := (classFields.lookup c).getD []
def putN (f : Str) : List Str → List Str
  | [] => [f]
  | g :: r => if g = f then g :: r else g :: putN f r
def putX {α : Type} (f : Str) (x : α) : List Str → List α → List α
  | g :: r, y :: ys => if g = f then x :: ys else y :: putX f x r ys
  | _, _ => [x]
theorem putF_zip (f : Str) (w : V) : ∀ {ns : List Str} {vs : List V}, ns.length = vs.length → putF f w (ns.zip vs) = (putN f ns).zip (putX f w ns vs)
  | [], [], _ => rfl
  | [], _ :: _, h => by simp at h
  | _ :: _, [], h => by simp at h
  | n :: ns, v :: vs, h => by
    have ih := putF_zip f w (ns := ns) (vs := vs) (by simpa using h)
    show (if n = f then (n, w) :: ns.zip vs else (n, v) :: putF f w (ns.zip vs)) = (if n = f then n :: ns else n :: putN f ns).zip (if n = f then w :: vs else v :: putX f w ns vs)
    split
    · rfl
    · rw [ih]; rfl
theorem putN_len {α : Type} (f : Str) (x : α) : ∀ {ns : List Str} {xs : List α}, ns.length = xs.length → (putN f ns).length = (putX f x ns xs).length
  | [], [], _ => rfl
  | [], _ :: _, h => by simp at h
  | _ :: _, [], h => by simp at h
  | n :: ns, v :: vs, h => by
    have ih := putN_len f x (ns := ns) (xs := vs) (by simpa using h)
    show (if n = f then n :: ns else n :: putN f ns).length = (if n = f then x :: vs else v :: putX f x ns vs).length
    split
    · simpa using h
    · simp [ih]
theorem putN_mem {f : Str} {P : Str → Prop} (hf : P f) : ∀ {ns : List Str}, (∀ n ∈ ns, P n) → ∀ n ∈ putN f ns, P n
  | [], _, n, m => by rw [List.mem_singleton.mp m]; exact hf
  | g :: r, h, n, m => by
    have m : n ∈ (if g = f then g :: r else g :: putN f r) := m
    split at m
    · exact h n m
    · rcases List.mem_cons.mp m with rfl | m
      · exact h n List.mem_cons_self
      · exact putN_mem hf (fun n m => h n (List.mem_cons_of_mem _ m)) n m
section
variable {K : PySem.W.Frag} {cs : Cs} {H H' : Hp} {Z Z' : Addr → Prop}
theorem RL.putw {f : Str} {x : D} {w : V} {Fx : List Addr} (rx : R K cs H Z x w Fx) (ndx : Fx.Nodup) : ∀ {ns : List Str} {xs : List D} {vs : List V} {F : List Addr}, ns.length = xs.length → RL K cs H Z xs vs F → F.Nodup → (∀ a ∈ F, a ∉ Fx) →
    ∃ F'', RL K cs H Z (putX f x ns xs) (putX f w ns vs) F'' ∧ F''.Nodup ∧ ∀ a ∈ F'', a ∈ F ∨ a ∈ Fx
  | [], [], vs, F, _, r, nd, dj => by
    rw [r.1]
    exact ⟨Fx, RL.one rx, ndx, fun a m => .inr m⟩
  | [], _ :: _, _, _, h, _, _, _ => by simp at h
  | _ :: _, [], _, _, h, _, _, _ => by simp at h
  | n :: ns, y :: ys, vs, F, l, r, nd, dj => by
    obtain ⟨v, vs', F1, F2, rfl, r1, r2, rfl⟩ := r
    have nn := List.nodup_append.mp nd
    by_cases e : n = f
    · rw [show putX f x (n :: ns) (y :: ys) = x :: ys from if_pos e, show putX f w (n :: ns) (v :: vs') = w :: vs' from if_pos e]
      exact ⟨Fx ++ F2, ⟨w, vs', Fx, F2, rfl, rx, r2, rfl⟩, List.nodup_append.mpr ⟨ndx, nn.2.1, fun a m b k e => by subst e; exact dj a (List.mem_append_right _ k) m⟩, fun a m => (List.mem_append.mp m).elim .inr fun m => .inl (List.mem_append_right _ m)⟩
    · rw [show putX f x (n :: ns) (y :: ys) = y :: putX f x ns ys from if_neg e, show putX f w (n :: ns) (v :: vs') = v :: putX f w ns vs' from if_neg e]
      obtain ⟨G, rg, ndg, hg⟩ := RL.putw (f := f) rx ndx (ns := ns) (by simpa using l) r2 nn.2.1 fun a m => dj a (List.mem_append_right _ m)
      refine ⟨F1 ++ G, ⟨v, _, F1, G, rfl, r1, rg, rfl⟩, List.nodup_append.mpr ⟨nn.1, ndg, fun a m b k e => ?_⟩, fun a m => ?_⟩
      · subst e
        rcases hg a k with k | k
        · exact nn.2.2 a m a k rfl
        · exact dj a (List.mem_append_left _ m) k
      · rcases List.mem_append.mp m with m | m
        · exact .inl (List.mem_append_left _ m)
        · exact (hg a m).imp_left (List.mem_append_right _)
/-- an object at a place is written -/
theorem Rel.foc_objw {e : En} {σ : L2.St} {env : Env} {Fs : Nat → List Addr} {i : Nat} (r : Rel K cs e H Z σ env Fs) {d : D} {v u : V} {put : D → D} {c : Str} {ns : List Str} {xs : List D} (hd : env[i]? = some (some d)) (hσ : σ[i]? = some (some v)) (f : Foc K cs H Z v (Fs i) (.obj true c ns xs) u put) :
    ∃ p dx ci vs, u = .ref p ∧ ci ∈ cs ∧ ci.name = c ∧ (∀ n ∈ ns, n ∈ ci.fields) ∧ H p = some (.ins ci.addr dx (ns.zip vs)) ∧ vs.length = xs.length ∧ ns.length = xs.length ∧ ∀ (ns' : List Str) (xs' : List D) (vs' : List V) (Fx : List Addr), (∀ n ∈ ns', n ∈ ci.fields) → ns'.length = xs'.length →
      (∀ a ∈ Fx, ¬ Z a ∧ (∃ o, H a = some o) ∧ (∀ j, a ∉ Fs j) ∧ (e.W a ∨ e.H0 a = none)) →
      (∀ F', RL K cs H Z xs vs F' → F'.Nodup → (∀ a ∈ F', a ∉ Fx) → ∃ F'', RL K cs H Z xs' vs' F'' ∧ F''.Nodup ∧ ∀ a ∈ F'', a ∈ F' ∨ a ∈ Fx) → ∃ Fs', Rel K cs e (upd H p (.ins ci.addr dx (ns'.zip vs'))) Z σ (env.set i (some (put (.obj true c ns' xs')))) Fs' := by
  obtain ⟨Fe0, re0⟩ := f.here
  obtain ⟨p, dx, ci, vs, F0, rfl, mem, nm, fl, t, l, rl0, _⟩ := re0
  refine ⟨p, dx, ci, vs, rfl, mem, nm, fl, t, rl0.len, l, fun ns' xs' vs' Fx fl' l' hx hr => ?_⟩
  have hw : ∀ (F'' : List Addr), RL K cs (upd H p (.ins ci.addr dx (ns'.zip vs'))) Z xs' vs' F'' → R K cs (upd H p (.ins ci.addr dx (ns'.zip vs'))) Z (.obj true c ns' xs') (.ref p) (p :: F'') := fun F'' h => ⟨p, dx, ci, vs', F'', rfl, mem, nm, fl', upd_same, l', h, rfl⟩
  obtain ⟨Fs', r', _⟩ := r.foc_put (H' := upd H p (.ins ci.addr dx (ns'.zip vs'))) (Z' := Z) (x' := .obj true c ns' xs') hd hσ f fun F1 Fe F2 hF nd hm re => by
    obtain ⟨q, dx', ci', ws, F', e1, mem', nm', fl'', t1, l'', rl, hFe⟩ := re
    cases e1
    rw [t] at t1
    have t1 := Option.some.inj t1
    injection t1 with ta tb tc
    have hws : ws = vs := by
      have h1 := congrArg (List.map Prod.snd) tc
      rw [List.map_snd_zip (by rw [rl0.len, l]; exact Nat.le_refl _), List.map_snd_zip (by rw [rl.len, l'']; exact Nat.le_refl _)] at h1
      exact h1.symm
    subst hws
    subst hFe
    have inFs : ∀ a ∈ p :: F', a ∈ Fs i := fun a m => by rw [hF]; simp only [List.mem_append]; exact .inr (.inl m)
    have np := List.nodup_cons.mp nd
    obtain ⟨F'', rl2, nd2, h2⟩ := hr F' rl np.2 fun a m n => (hx a n).2.2.1 i (inFs a (List.mem_cons_of_mem _ m))
    have np2 : p ∉ F'' := fun m => by
      rcases h2 p m with m | m
      · exact np.1 m
      · exact (hx p m).2.2.1 i (inFs p List.mem_cons_self)
    refine ⟨p :: F'', hw F'' (RL.writes rl2 t trivial np2 (hm p List.mem_cons_self).2.2.1), fun _ z => z, fun _ z => .inl z, fun a o ho q => ?_, List.nodup_cons.mpr ⟨np2, nd2⟩, fun a m => ?_⟩
    · rw [upd_ne]
      · exact ho
      · intro w; subst w
        rw [t] at ho; cases ho
        rcases q with q | q
        · exact q List.mem_cons_self
        · exact q trivial
    · rcases List.mem_cons.mp m with rfl | m
      · exact ⟨(hm a List.mem_cons_self).2.2.1, .inl List.mem_cons_self⟩
      · rcases h2 a m with m | m
        · exact ⟨(hm a (List.mem_cons_of_mem _ m)).2.2.1, .inl (List.mem_cons_of_mem _ m)⟩
        · exact ⟨(hx a m).1, .inr (hx a m).2.2⟩
  exact ⟨Fs', r'⟩
end
section
variable {X : Cx} {cs : Cs} {L : List Nat} {a b c : Expr} {pos : Pos} {ta tb : TED} {st : Stmt} {tp : TPD} {i : Nat} {es : List Expr}
/-- P.f = e -/
def dFs (f : Str) (x : D) : D → (D → Prop) → Prop
  | .obj true c ns xs, Q => f ∈ fieldsOf c ∧ ns.length < 1000 ∧ Q (.obj true c (putN f ns) (putX f x ns xs))
  | _, _ => False
def fset_ (i : Nat) (tp : TPD) (f : Str) (ta : TED) : TSD := fun E env => ta env fun x => tp env fun put d => dFs f x d fun d' => E.nx (env.set i (some (put d')))
theorem vs_fset {o : Expr} {f : Str} {p1 : Pos} (hC : CsOk X.K cs) (hcf : ∀ ci ∈ cs, ci.fields = fieldsOf ci.name) (ha : VT X cs a ta) (ho : VPa X cs i o tp) (hs : swapsWith a (some (.Attribute o f p1)) pos.line X.env = pure false := by rfl) : VS X cs L (.Assign [.Attribute o f p1] a pos) (fset_ i tp f ta) :=
  ⟨fun e hl => ps_weak (ps_fld ho.run ha.run hs) fun D σ H ⟨env, Z, Fs, E, rl, q, ok⟩ => ⟨e, env, Z, Fs, rl, _, q, fun w H1 Z1 dx F x1 rx nd fre q => by
    have rl1 := rl.ext x1
    refine ⟨e, env, Z1, Fs, rl1, _, q, fun u H2 Z2 put d0 d v x2 hσ hd fo q => ?_⟩
    have rl2 := rl1.ext x2
    unfold dFs at q
    split at q
    · rename_i c ns xs
      obtain ⟨hf, hn, q5⟩ := q
      obtain ⟨p, dx', ci, vs, rfl, mem, nm, fl, t, hl1, hl2, up⟩ := rl2.foc_objw hd hσ fo
      have nw := rl.newto rx fre
      have nw3 : ∀ a ∈ F, ¬ Z2 a ∧ (∃ o, H2 a = some o) ∧ (∀ j, a ∉ Fs j) ∧ (e.W a ∨ e.H0 a = none) := fun a m => by
        obtain ⟨o, w⟩ := (nw a m).2.1
        refine ⟨fun z => ?_, x2.same.there _ o w, (nw a m).2.2⟩
        rcases x2.new a z with z | ⟨z, _⟩
        · exact (nw a m).1 z
        · rw [z] at w; cases w
      have hfc : f ∈ ci.fields := by rw [hcf ci mem, nm]; exact hf
      obtain ⟨Fs', r'⟩ := up (putN f ns) (putX f dx ns xs) (putX f w ns vs) F (putN_mem (P := fun n => n ∈ ci.fields) hfc fl) (putN_len f dx hl2) nw3 fun F' r nd' dj => RL.putw (rx.ext x2) nd hl2 r nd' dj
      rw [← putF_zip f w (by rw [hl1, hl2])] at r'
      refine ⟨p, ci.addr, dx', _, rfl, t, (hC ci mem).1, (hC ci mem).2 f hfc, ?_, ok.nx σ _ Z2 _ Fs' r' q5⟩
      rw [List.length_zip]; omega
    · exact False.elim q⟩⟩
/-! ### a class is called -/
structure KnC (P : Program) (w : World) (K : PySem.W.Frag) (mg : Str → Option Value) (base : Heap) (cs : Cs) (x : Str) (k : Nat) (ps : List Str) (s : SpM) : Prop where
  ex : ∃ (C f : Addr) (fd : FuncData) (ci : CI), Mk K C f ∧ FnOk P w K mg base CX0 k f fd ps (spOfM K cs [0] s) ∧ mg x = some (.ref C) ∧ Binds K fd ps [] ∧ ci ∈ cs ∧ ci.name = x ∧ ci.addr = C
def makeD (c : Str) (s : SpM) (u : TAD) : TED := fun env Q => u env fun ds => s (.obj true c [] [] :: frzL ds) fun r ds' => ∃ d' rest, ds' = d' :: rest ∧ r = .non ∧ (alo d' = true ∨ noOwnL ds = true) ∧ Q d'
theorem vt_make {s : SpM} {k : Nat} {ps : List Str} {x : Str} {p : Pos} {u : TAD} (h : KnC X.prog X.w X.K X.mg X.base cs x k ps s) (hr : Room (k + 1) X.A) (hg : Gl X x) (ha : VAr X cs (a :: es) u) (hdb : (x == ("__debug__" : Str)) = false := by decide)
    (he : starEach (a :: es) X.env = (false, eval a X.env) :: starEach es X.env := by rfl) (hpl : (backTo pos (starEach es X.env)).any (·.1) = false := by rfl) : VT X cs (.Call (.Name x p) (a :: es) [] pos) (makeD x s u) := by
  obtain ⟨C, f, fd, ci, M, F, hm, hb, mem, nm, hci⟩ := h.ex
  refine ⟨pe_weak (pe_make M F hr hg hm hb .nil pass0 ha.run hdb he hpl) fun σ H Q ⟨e, env, Z, Fs, rl, QD, q, k⟩ => ⟨e, env, Z, Fs, rl, _, q, fun vs H1 Z1 ds F1 x1 r1 q1 => fun xx dx nx ndx nex => ?_⟩⟩
  rw [List.append_nil]
  have s1 : Sm cs H1 (upd (upd H1 dx (.own xx)) xx (.ins C dx [])) := .of fun b o e => by rw [upd_ne (ne_of_none e nx), upd_ne (ne_of_none e ndx)]; exact e
  have al := RL.alloc _ _ _ r1
  have rl1 := rl.ext x1
  have hobj : R X.K cs (upd (upd H1 dx (.own xx)) xx (.ins C dx [])) (fun a => Z1 a ∨ a ∈ F1) (.obj true x [] []) (.ref xx) [xx] := ⟨xx, dx, ci, [], [], rfl, mem, nm, fun n m => (by cases m), by rw [upd_same, hci]; rfl, rfl, ⟨rfl, rfl⟩, rfl⟩
  refine ⟨s1.tabs rl1.tb, fun a => Z1 a ∨ a ∈ F1, .obj true x [] [] :: frzL ds, [xx], fun a z => ?_, ⟨.ref xx, vs, [xx], [], rfl, hobj, RL.ext (Ext.of s1) (RL.fr (fun _ h => .inl h) ds vs F1 (fun _ m => .inr m) r1), rfl⟩, by simp, fun a m z => ?_, fun i d hd hi => ?_, _, q1, ?_⟩
  · rcases z with z | z
    · obtain ⟨o, w⟩ := rl1.za a z
      exact s1.there _ o w
    · obtain ⟨o, w⟩ := al a z
      exact s1.there _ o w
  · rw [List.mem_singleton.mp m] at z
    rcases z with z | z
    · exact rl1.nz nx z
    · obtain ⟨o, w⟩ := al xx z
      rw [nx] at w; cases w
  · cases i with
    | zero => exact absurd List.mem_cons_self hi
    | succ i =>
      have h0 := frzL_noOwn ds
      rw [noOwnL_all, List.all_eq_true] at h0
      exact h0 d (List.mem_of_getElem? (by simpa using hd))
  · rintro v H2 Z2 r ds' Fr F' up zn za kp kt tb2 RLd Rr nd hF ⟨d', rest, rfl, rfl, c, q2⟩
    obtain ⟨v0, vs', G1, G2, e1, rd, _, rfl⟩ := RLd
    cases e1
    have nd1 := (List.nodup_append.mp (List.nodup_append.mp nd).1).1
    have s2 : Sm cs H1 H2 := ⟨fun b o e n => kp b o (s1.keep b o e n) n (fun m => by rw [List.mem_singleton.mp m, nx] at e; cases e), fun b o e => let ⟨o1, e1⟩ := s1.there b o e; kt b o1 e1 (fun m => by rw [List.mem_singleton.mp m, nx] at e; cases e), fun _ => tb2⟩
    have old : ∀ a ∈ G1, H1 a = none := fun a m => by
      rcases (hF a (List.mem_append_left _ (List.mem_append_left _ m))).2 with w | w
      · rw [List.mem_singleton.mp w]; exact nx
      · exact s1.free w
    refine ⟨Rr.1, ?_⟩
    rcases c with c | c
    · exact k _ H2 Z1 d' G1 (x1.trans (Ext.of s2)) (R.anyZ _ _ _ c rd) nd1 (fun a m => ⟨x1.same.free (old a m), fun z => rl1.nz (old a m) z⟩) q2
    · have e0 := RL.noF ds vs F1 c r1
      subst e0
      refine k _ H2 Z2 d' G1 (x1.trans ⟨s2, fun a z => up a (.inl z), fun a z => ?_⟩) rd nd1 (fun a m => ⟨x1.same.free (old a m), (hF a (List.mem_append_left _ (List.mem_append_left _ m))).1⟩) q2
      rcases zn a z with w | w | w
      · exact .inl (w.elim id fun m => by cases m)
      · exact .inr ⟨by rw [List.mem_singleton.mp w]; exact nx, za a z⟩
      · exact .inr ⟨s1.free w, za a z⟩
end
/-! ### the law's own promise -/
def spTop (K : PySem.W.Frag) (tb : List (Addr × Str)) (n : Nat) : Sp := fun vs H Q _ => LamX.Tabs tb H ∧ ∃ (p : Addr) (xs : List Int), vs = [.ref p] ∧ SqL K H p (xs.map V.int) ∧ xs.length ≤ n ∧ ∀ H', Q (.bl true) H'
theorem top_imp {K : PySem.W.Frag} {cs : Cs} {n : Nat} {vs : List V} {H : Hp} {Q : VK} {E : XK} (h : spTop K cs.tb n vs H Q E) : spOf K cs (spLaw fun ys => ys.length ≤ n) vs H Q E := by
  obtain ⟨tb, p, xs, rfl, hS, hl, q⟩ := h
  refine ⟨tb, fun b => b = p ∧ ∃ o, H b = some o, [.lst false (xs.map .int)], fun b z => z.2, ?_, fun r => r = .bl true, ⟨xs, rfl, hl, rfl⟩, fun v H' Z' r F _ rr _ _ e => by subst e; rw [rr.1]; exact q H'⟩
  refine RL.one ⟨p, _, rfl, ?_, RL.of_ints xs, rfl⟩
  rcases hS with hS | hS
  · exact .inl ⟨hS, rfl, by rcases hS with hS | ⟨o, hS⟩ <;> exact ⟨_, hS⟩⟩
  · exact .inr hS
end VL
set_option maxHeartbeats 2000000
namespace VL
open PySem L2 PyProof.Rows
section
variable {K : PySem.W.Frag} {cs : Cs}
/-! ### built-ins over a list -/
theorem RL.of_strs {H : Hp} {Z : Addr → Prop} : ∀ (ns : List Str), RL K cs H Z (ns.map .str) (ns.map .str) []
  | [] => ⟨rfl, rfl⟩
  | n :: ns => ⟨_, _, [], [], rfl, ⟨rfl, rfl⟩, RL.of_strs ns, rfl⟩
end
/-! ### loops over range(i, j) -/
theorem for_rng2 {i : Nat} {u : TAD} {tb : TSD} {E : EndsD} {env : Env} {lo j : Int} (hu : ∀ Q : List D → Prop, Q [.int lo, .int j] → u env Q) (h1 : -(2 ^ 62) ≤ lo) (h2 : lo < 2 ^ 62) (h3 : -(2 ^ 62) ≤ j) (h4 : j < 2 ^ 62) (Pv : Int → Env → Prop) (h0 : Pv lo env)
    (hs : ∀ (k : Int) env', lo ≤ k → k < j → Pv k env' → tb { nx := Pv (k + 1), ct := Pv (k + 1), bk := E.nx, rt := E.rt, ex := E.ex } (env'.set i (some (.int k)))) (hd : ∀ env', Pv (if lo ≤ j then j else lo) env' → E.nx env') : for_ i (rng2_ u) tb E env := by
  refine hu _ ⟨⟨h1, h2, h3, h4⟩, fun k => Pv (lo + (k : Nat)), by simpa using h0, fun k d env' hk pv => ?_, fun env' pv => ?_⟩
  · obtain ⟨hk, rfl⟩ := rng_get hk
    have := hs (lo + (k : Nat)) env' (by omega) (by omega) pv
    show tb { nx := Pv (lo + ((k + 1 : Nat) : Int)), rt := E.rt, ex := E.ex, bk := E.nx, ct := Pv (lo + ((k + 1 : Nat) : Int)) } _
    rw [show lo + ((k + 1 : Nat) : Int) = lo + (k : Nat) + 1 by omega]
    exact this
  · rw [rng_len] at pv
    refine hd env' ?_
    split
    · rw [show lo + (((j - lo).toNat : Nat) : Int) = j by omega] at pv; exact pv
    · rw [show lo + (((j - lo).toNat : Nat) : Int) = lo by omega] at pv; exact pv
end VL
set_option maxHeartbeats 2000000
namespace PySem.AutoSeq1
open PySem
theorem list___add___any (l : Addr) (items : Array Value) (n : Nat) (b : Addr) (items2 : Array Value) (n2 : Nat) (d1 d2 : Option Addr) (s1 s2 : Array (Option Value)) (hc0 : items.size + items2.size ≤ sizeLine) :
    Meets (Builtin.«list.__add__» ⟨[.ref l, .ref b], []⟩) (fun _ R s => s.heap.get? l = some { cls := .type "list", dict := d1, data := .seq items n, slots := s1 } ∧ s.heap.get? b = some { cls := .type "list", dict := d2, data := .seq items2 n2, slots := s2 } ∧ R (.ok (.ret (Value.ref s.heap.objs.size))) { s with heap := s.heap.push { cls := Value.type "list", data := Data.seq (items ++ items2) }, toks := s.toks }) :=
  .of_wp fun prog w A R s h => by obtain ⟨hp, g, d, tk, os⟩ := s; obtain ⟨hl, hb, h⟩ := h; have f1 := idx_int; have f2 := sub_tuple_tuple; have f3 := sub_list_list; have f4 := sub_tuple_list; have f5 := sub_list_tuple; wp_walk using wpAny_loadPart' hl, wpAny_loadPart' hb; exact ⟨_, rfl, h⟩
end PySem.AutoSeq1
namespace VL
open PySem L2 PyProof.Rows
/-! ### lists of any kind: added, and to extend by -/
def rCatG (K : PySem.W.Frag) : R2 := fun x y H Q => ∃ l b xs zs, x = .ref l ∧ y = .ref b ∧ SqL K H l xs ∧ SqL K H b zs ∧ xs.length + zs.length ≤ sizeLine ∧ ∀ p, H p = none → Q (.ref p) (upd H p (.lst (xs ++ zs)))
theorem op_catG {X : Cx} : OpR X (binaryOp .Add) (rCatG X.K) := by
  intro pins s σ H x y v u Q I rx ry h
  obtain ⟨l, b, xs, zs, rfl, rfl, hH, hB, hz, q⟩ := h
  cases rx
  cases ry
  obtain ⟨its, r, ⟨⟨c1, d1, t1, s1⟩, n1, e1, rfl, _, rfl⟩, _⟩ := I.list hH
  obtain ⟨its2, r2, ⟨⟨c2, d2, t2, s2⟩, n2, e2, rfl, _, rfl⟩, _⟩ := I.list hB
  have hl := r.length
  have hl2 := r2.length
  refine PySem.concat_meets ⟨_, e1, rfl⟩ ⟨_, e2, rfl⟩ PySem.noFill_list_add PySem.seq_list_add PySem.F.slot_list_add PySem.F.entry_list_add (PySem.F.args_list_add_2 _ _)
    (PySem.AutoSeq1.list___add___any l its.toArray n1 b its2.toArray n2 d1 d2 s1 s2 (by rw [List.size_toArray, List.size_toArray]; omega)) ⟨e1, e2, ?_⟩
  have ea : its.toArray ++ its2.toArray = (its ++ its2).toArray := by simp
  rw [ea]
  exact ⟨.ref _, _, I.lnew (t' := s.toks) (r.append r2) (by rw [List.length_append]; omega), rfl, q _ I.fresh⟩
section
variable {K : PySem.W.Frag} {cs : Cs}
def rAll5 (K : PySem.W.Frag) : R2 := fun x y H Q => rAll4 K x y H Q ∨ rCatG K x y H Q
theorem op_add5 {X : Cx} : OpR X (binaryOp .Add) (rAll5 X.K) := op_add4.or op_catG
def dAddG : D → D → (D → Prop) → Prop
  | .int i, .int j, Q => Q (.int (i + j))
  | .str i, .str j, Q => i.length + j.length ≤ sizeLine ∧ Q (.str (i ++ j))
  | .lst _ xs, .lst _ ys, Q => noOwnL xs = true ∧ noOwnL ys = true ∧ xs.length + ys.length ≤ sizeLine ∧ Q (.lst true (xs ++ ys))
  | .tup xs, .tup ys, Q => xs ≠ [] ∧ noOwnL xs = true ∧ noOwnL ys = true ∧ xs.length + ys.length ≤ sizeLine ∧ Q (.tup (xs ++ ys))
  | _, _, _ => False
theorem od_addG : OD K cs (rAll5 K) dAddG := by
  intro H Z Q QD x y v w F G za rx ry q k
  have old : dAdd x y QD → rAll5 K v w H Q := fun h => .inl (od_add H Z Q QD x y v w F G za rx ry h k)
  cases x with
  | lst m xs =>
    cases y with
    | lst m' ys =>
      obtain ⟨n1, n2, l, q⟩ := q
      obtain ⟨a, vs, F', rfl, t, r, _⟩ := R.lstv rx
      obtain ⟨b, ws, G', rfl, t2, r2, _⟩ := R.lstv ry
      exact .inr ⟨a, b, vs, ws, rfl, rfl, t, t2, by rw [r.len, r2.len]; exact l, fun p hp => fin_lst za k hp (RL.app0 (RL.noF0 r n1) (RL.noF0 r2 n2)) q⟩
    | _ => exact False.elim q
  | int i => cases y <;> first | exact old q | exact False.elim q
  | str i => cases y <;> first | exact old q | exact False.elim q
  | tup i => cases y <;> first | exact old q | exact False.elim q
  | _ => cases y <;> exact False.elim q
end
section
variable {X : Cx} {cs : Cs} {L : List Nat} {a : Expr} {pos : Pos} {ta : TED} {tp : TPD} {i : Nat}
/-- P.extend(e), e a list or a tuple that is looked at -/
def dExt : D → (List D → Prop) → Prop
  | .lst _ ys, Q => noOwnL ys = true ∧ Q ys
  | .tup ys, Q => noOwnL ys = true ∧ Q ys
  | _, _ => False
def pext_ (i : Nat) (tp : TPD) (ta : TED) : TSD := fun E env => tp env fun put d => ∃ xs, d = .lst true xs ∧ ta env fun x => dExt x fun ys => xs.length + ys.length ≤ sizeLine ∧ E.nx (env.set i (some (put (.lst true (xs ++ ys)))))
end
/-! ### constants of a module -/
section
variable {X : Cx} {cs : Cs} {pos : Pos} {x : Str}
theorem vt_gstr {z : Str} (hg : Gl X x) (h : ∃ t, X.mg x = some (.str z t)) (hd : (x == ("__debug__" : Str)) = false := by decide) : VT X cs (.Name x pos) (c_ (.str z)) := by
  obtain ⟨t, h⟩ := h
  exact vt_glob hg h (v := .str z) ⟨t, rfl⟩ (fun _ _ => ⟨rfl, rfl⟩) hd
theorem vt_gint {z : Int} (hg : Gl X x) (h : ∃ t, X.mg x = some (.int z t)) (hd : (x == ("__debug__" : Str)) = false := by decide) : VT X cs (.Name x pos) (c_ (.int z)) := by
  obtain ⟨t, h⟩ := h
  exact vt_glob hg h (v := .int z) ⟨t, rfl⟩ (fun _ _ => ⟨rfl, rfl⟩) hd
/-- a tuple of texts -/
def TupS (K : PySem.W.Frag) (a : Addr) (zs : List Str) : Prop := ∃ (o : Obj) (its : Array Value) (n : Nat), K.lookup a = some o ∧ o.cls = .type "tuple" ∧ o.data = .seq its n ∧ its.size ≤ sizeLine ∧ Vals (zs.map V.str) its.toList
theorem vt_gtup {zs : List Str} (hg : Gl X x) (h : ∃ a, X.mg x = some (.ref a) ∧ TupS X.K a zs) (hd : (x == ("__debug__" : Str)) = false := by decide) : VT X cs (.Name x pos) (c_ (.tup (zs.map .str))) := by
  obtain ⟨a, h, o, its, n, h1, h2, h3, h4, h5⟩ := h
  exact vt_glob hg h (v := .ref a) rfl (fun _ _ => ⟨a, zs.map .str, rfl, .inr ⟨o, its, n, h1, h2, h3, h4, h5⟩, RL.of_strs zs⟩) hd
end
end VL
set_option maxHeartbeats 2000000
namespace VL
open PySem L2 PyProof.Rows
/-! ### targets that are tuples of names -/
def setsD : List Nat → List D → Env → Env
  | i :: is, d :: ds, env => setsD is ds (env.set i (some d))
  | _, _, env => env
section
variable {X : Cx} {cs : Cs} {L : List Nat} {a b c iter : Expr} {pos : Pos} {ta tb : TED} {st : Stmt} {sts body : List Stmt} {t u : TSD}
/-- a, b = e -/
def unp_ (is : List Nat) (ta : TED) : TSD := fun E env => ta env fun d => ∃ xs, d = .tup xs ∧ xs.length = is.length ∧ noOwnL xs = true ∧ E.nx (setsD is xs env)
/-- enumerate over a list -/
def enumD (xs : List D) : List D := xs.zipIdx.map fun p => .tup [.int (p.2 : Nat), p.1]
def enum_ (ta : TED) : TAD := fun env Q => ta env fun d => match d with
  | .lst _ xs => Q (enumD (frzL xs))
  | _ => False
/-! ### lists changed by their methods -/
variable {tp : TPD} {i : Nat}
/-- P.insert(k, e) -/
def pins_ (i : Nat) (tp : TPD) (tk ta : TED) : TSD := fun E env => tp env fun put d => ∃ xs, d = .lst true xs ∧ xs.length < sizeLine ∧ tk env fun k => ∃ m, k = .int m ∧ 0 ≤ m ∧ m < 2 ^ 63 ∧ ta env fun x => E.nx (env.set i (some (put (.lst true (xs.take m.toNat ++ [x] ++ xs.drop m.toNat)))))
theorem RL.cut2 {K : PySem.W.Frag} {H : Hp} {Z : Addr → Prop} : ∀ (n : Nat) {xs : List D} {vs : List V} {F : List Addr}, RL K cs H Z xs vs F → ∃ F1 F2, RL K cs H Z (xs.take n) (vs.take n) F1 ∧ RL K cs H Z (xs.drop n) (vs.drop n) F2 ∧ F = F1 ++ F2
  | 0, xs, vs, F, r => ⟨[], F, ⟨by simp, rfl⟩, by simpa using r, rfl⟩
  | n + 1, [], vs, F, r => by rw [r.1, r.2]; exact ⟨[], [], ⟨rfl, rfl⟩, ⟨rfl, rfl⟩, rfl⟩
  | n + 1, x :: xs, vs, F, r => by
    obtain ⟨v, vs', F1, F2, rfl, r1, r2, rfl⟩ := r
    obtain ⟨G1, G2, h1, h2, rfl⟩ := RL.cut2 n r2
    exact ⟨F1 ++ G1, G2, ⟨v, _, F1, G1, rfl, r1, h1, rfl⟩, h2, by rw [List.append_assoc]⟩
theorem vs_pins {tk : TED} (h : PE X a (tBM X.K "list" (fun x vs H Q => ∃ (l : Addr) (xs : List V) (i : Int) (y : V), x = .ref l ∧ vs = [.int i, y] ∧ H l = some (.lst xs) ∧ xs.length < sizeLine ∧ 0 ≤ i ∧ i < 2 ^ 63 ∧ Q .non (upd H l (.lst (xs.take i.toNat ++ [y] ++ xs.drop i.toNat)))) (tOfPa X.K cs i tp) (tCons (tOf X.K cs tk) (tCons (tOfT X.K cs ta) tNil))))
    (hs : swapsWith a none pos.line X.env = pure false := by rfl) : VS X cs L (.Expr a pos) (pins_ i tp tk ta) :=
  ⟨fun e hl => ps_weak (ps_expr h hs) fun D σ H ⟨env, Z, Fs, E, rl, q, ok⟩ => ⟨e, env, Z, Fs, rl, _, q, fun u H1 Z1 put d0 d v x1 hσ hd fo ⟨xs, ex, hz, q⟩ => by
    subst ex
    have rl1 := rl.ext x1
    obtain ⟨p, vs, rfl, t, hl1, _⟩ := rl1.foc_lstw hd hσ fo
    refine ⟨.inl ⟨rfl, vs, SqL.of t⟩, e, env, Z1, Fs, rl1, _, q, fun kv Hk Zk dk Fk xk rk ⟨m, em, m0, m1, q⟩ => ?_⟩
    subst em
    cases rk.1
    have rlk := rl1.ext xk
    refine ⟨e, env, Zk, Fs, rlk, _, q, fun w H2 Z2 dx F x2 rw' nd fre z => ⟨p, vs, m, w, rfl, rfl, x2.same.at (xk.same.at t), by rw [hl1]; exact hz, m0, m1, ?_⟩⟩
    have rl2 := rlk.ext x2
    obtain ⟨p2, vs2, e2, t2, hl2, up⟩ := rl2.foc_lstw hd hσ ((fo.ext xk).ext x2)
    cases e2
    rw [x2.same.at (xk.same.at t)] at t2; cases t2
    obtain ⟨Fs', r'⟩ := up (xs.take m.toNat ++ [dx] ++ xs.drop m.toNat) (vs.take m.toNat ++ [w] ++ vs.drop m.toNat) F (rlk.newto rw' fre) fun F' r nd' dj => by
      obtain ⟨G1, G2, h1, h2, rfl⟩ := RL.cut2 m.toNat r
      have n := List.nodup_append.mp nd'
      refine ⟨G1 ++ F ++ G2, RL.app (RL.app h1 (RL.one rw')) h2, List.nodup_append.mpr ⟨List.nodup_append.mpr ⟨n.1, nd, fun a m b k e => ?_⟩, n.2.1, fun a m b k e => ?_⟩, fun a m => ?_⟩
      · subst e; exact dj a (List.mem_append_left _ m) k
      · subst e
        rcases List.mem_append.mp m with m | m
        · exact n.2.2 a m a k rfl
        · exact dj a (List.mem_append_right _ k) m
      · simp only [List.mem_append] at m ⊢
        rcases m with (m | m) | m
        · exact .inl (.inl m)
        · exact .inr m
        · exact .inl (.inr m)
    exact ok.nx σ _ Z2 _ Fs' r' z⟩⟩
/-- P.remove(k), a list of ints -/
def prem_ (i : Nat) (tp : TPD) (ta : TED) : TSD := fun E env => tp env fun put d => ∃ ns : List Int, d = .lst true (ns.map .int) ∧ ta env fun x => ∃ k, x = .int k ∧ k ∈ ns ∧ E.nx (env.set i (some (put (.lst true ((ns.erase k).map .int)))))
/-- P.m() that makes the list another one of the same things -/
def pm0_ (i : Nat) (tp : TPD) (ok : List D → Prop) (f : List D → List D) : TSD := fun E env => tp env fun put d => ∃ xs, d = .lst true xs ∧ ok xs ∧ E.nx (env.set i (some (put (.lst true (f xs)))))
theorem RL.dl {K : PySem.W.Frag} {H : Hp} {Z : Addr → Prop} {xs : List D} {vs : List V} {F : List Addr} (r : RL K cs H Z xs vs F) (nd : F.Nodup) : ∃ F'', RL K cs H Z xs.dropLast vs.dropLast F'' ∧ F''.Nodup ∧ ∀ a ∈ F'', a ∈ F := by
  obtain ⟨F1, F2, h1, h2, rfl⟩ := RL.cut2 (xs.length - 1) r
  refine ⟨F1, ?_, (List.nodup_append.mp nd).1, fun a m => List.mem_append_left _ m⟩
  rw [List.dropLast_eq_take, List.dropLast_eq_take, r.len]
  exact h1
/-- x += e, numbers -/
def aug_ (i : Nat) (ta : TED) : TSD := fun E env => ∃ k, env[i]? = some (some (.int k)) ∧ ta env fun d => ∃ j, d = .int j ∧ E.nx (env.set i (some (.int (k + j))))
/-! ### list(range(..)); sorted(.., reverse=True) -/
def rgI (a b : Int) : List Int := (List.range (b - a).toNat).map fun i => a + (i : Nat)
def rgOk (a b : Int) : Prop := -(2 ^ 62) ≤ a ∧ a < 2 ^ 62 ∧ -(2 ^ 62) ≤ b ∧ b < 2 ^ 62 ∧ (b - a).toNat ≤ 2 ^ 24
def lrg1_ (ta : TED) : TED := fun env Q => ta env fun d => match d with | .int j => rgOk 0 j ∧ Q (.lst true ((rgI 0 j).map .int)) | _ => False
def lrg2_ (ta tb : TED) : TED := fun env Q => ta env fun d => tb env fun e => match d, e with | .int i, .int j => rgOk i j ∧ Q (.lst true ((rgI i j).map .int)) | _, _ => False
def dSortR (b : Bool) (d : D) (Q : D → Prop) : Prop := ∃ m ns, d = .lst m (ns.map .int) ∧ ∀ ns' : List Int, ns'.Perm ns → (if b then ns'.Pairwise (· ≥ ·) else ns'.Pairwise (· ≤ ·)) → Q (.lst true (ns'.map .int))
end
end VL
set_option maxHeartbeats 2000000
namespace VL
open PySem L2 PyProof.Rows
section
variable {X : Cx} {cs : Cs} {a b : Expr} {pos : Pos} {ta tb : TED}
/-! ### methods of texts with one argument -/
def sm1_ (f : Str → D → (D → Prop) → Prop) (ta tb : TED) : TED := fun env Q => ta env fun x => match x with
  | .str s => tb env fun y => f s y Q
  | _ => False
def dSplit (s : Str) (y : D) (Q : D → Prop) : Prop := ∃ b, y = .str b ∧ (b.length == 0) = false ∧ s.length + 2 ≤ sizeLine ∧ Q (.lst true ((Txt.split s b).map .str))
def dPart (s : Str) (y : D) (Q : D → Prop) : Prop := ∃ b, y = .str b ∧ (b.length == 0) = false ∧ s.length ≤ sizeLine ∧ Q (.tup [.str (Txt.partition s b).1, .str (Txt.partition s b).2.1, .str (Txt.partition s b).2.2])
def dJoin (s : Str) (y : D) (Q : D → Prop) : Prop := ∃ ys : List Str, ((∃ m, y = .lst m (ys.map .str)) ∨ y = .tup (ys.map .str)) ∧ (ys.map (·.length)).sum + ys.length * s.length ≤ 16777216 ∧ Q (.str (Txt.join s ys))
end
/-! ### one sign in a text -/
theorem hasS_sign (z : Str) (c : Nat) : hasS z ⟨#[c]⟩ = decide (c ∈ z.cps.toList) := PySem.StrLaws.found_one z c
end VL
set_option maxHeartbeats 2000000
namespace VL
open PySem L2 LamX NdefX PyProof.Rows
/-! ### a lambda is made -/
section
variable {X : Cx} {cs : Cs} {pins : List (Addr × Obj)} {σ : L2.St} {H : Hp} {s : Shared}
abbrev lamQ (X : Cx) : Str := X.env.qual ++ "<lambda>"
/-- what the making of a lambda asks of the def -/
structure LamT (X : Cx) (cs : Cs) : Prop where
  ex : ∃ c P, TabB X.base X.mg c P ∧ X.env.code = .ref c ∧ (P, lamQ X) ∈ cs.tb ∧ ∀ p ∈ cs.tb, p.1 = P → p.2 = lamQ X
end
/-! ### and called -/
section
variable {X : Cx} {cs : Cs} {pins : List (Addr × Obj)} {σ : L2.St} {HZ : Hp} {s1 : Shared}
end
/-! ### sorted by a key that is a number -/
section
variable {prog : Program} {w : World} {A : Around} {s : Shared} {a kS : Addr} {e1 : Nat} {vs : List Value} {P : PySem.Fin → Shared → Prop}
open PySem.W in
end
/-! ### the rule -/
section
variable {X : Cx} {cs : Cs} {pins : List (Addr × Obj)} {σ : L2.St} {H H' : Hp} {s : Shared}
theorem RL.pairs {K : PySem.W.Frag} {Z : Addr → Prop} : ∀ {xs : List D} {vs : List V}, RL K cs H Z xs vs [] → ∀ p ∈ vs.zip xs, R K cs H Z p.2 p.1 []
  | [], vs, r, p, m => by rw [r.1] at m; cases m
  | x :: xs, vs, r, p, m => by
    obtain ⟨v, vs', F1, F2, rfl, r1, r2, e⟩ := r
    have e := List.append_eq_nil_iff.mp e.symm
    rw [e.1] at r1; rw [e.2] at r2
    rw [List.zip_cons_cons] at m
    rcases List.mem_cons.mp m with rfl | m
    · exact r1
    · exact RL.pairs r2 p m
end
section
variable {X : Cx} {cs : Cs} {a : Expr} {pos p lpos kpos : Pos} {ta tb : TED}
open PySem.W in
end
/-! ### defs with a lambda -/
section
variable {cs : Cs}
end
end VL
set_option maxHeartbeats 2000000
namespace VL
open PySem L2 PyProof.Rows
section
variable {X : Cx} {cs : Cs} {a b : Expr} {pos : Pos} {ta tb : TED}
/-! ### xs.index(k), a list of ints -/
def lidx_ (ta tb : TED) : TED := fun env Q => ta env fun d => ∃ m, ∃ ns : List Int, d = .lst m (ns.map .int) ∧ tb env fun y => ∃ k, y = .int k ∧ k ∈ ns ∧ Q (.int (ns.idxOf k : Nat))
/-! ### len(set(xs)), xs without doubles -/
def lens_ (ta : TED) : TED := fun env Q => ta env fun d => ∃ m, ∃ ns : List Int, d = .lst m (ns.map .int) ∧ ns.Nodup ∧ ns.length ≤ 4000 ∧ Q (.int (ns.length : Nat))
/-! ### a slot's list is lent to a test -/
def lend_ (i : Nat) (t : TTD) : TTD := fun env Q => ∃ d, env[i]? = some (some d) ∧ t (env.set i (some (frz d))) Q
theorem Rel.loose {K : PySem.W.Frag} {e : En} {H : Hp} {Z : Addr → Prop} {σ : L2.St} {env : Env} {Fs : Nat → List Addr} (r : Rel K cs e H Z σ env Fs) : Rel K cs ⟨fun _ => none, Z, fun _ => False, [], []⟩ H Z σ env Fs :=
  ⟨r.slot, r.off, r.nd, r.dj, r.dz, r.za, fun _ _ _ => .inr rfl, fun _ _ h => (by cases h), fun _ _ h => (by cases h), r.tb, fun _ h => h, fun _ h => .inl h, fun _ m => (by cases m), fun _ m => (by cases m), r.len⟩
/-! ### a loop over a slot's own list of ints, which stays -/
theorem Rel.withio {K : PySem.W.Frag} {e : En} {H : Hp} {Z : Addr → Prop} {σ : L2.St} {env : Env} {Fs : Nat → List Addr} (r : Rel K cs e H Z σ env Fs) {j : Nat} {v : V} (h : σ[j]? = some (some v)) : Rel K cs { e with io := (j, v) :: e.io } H Z σ env Fs :=
  ⟨r.slot, r.off, r.nd, r.dj, r.dz, r.za, r.own, r.fr, r.th, r.tb, r.z0, r.z1, fun p m => by
    rcases List.mem_cons.mp m with rfl | m
    · exact h
    · exact r.io p m, r.gs, r.len⟩
theorem Rel.lessio {K : PySem.W.Frag} {e : En} {H : Hp} {Z : Addr → Prop} {σ : L2.St} {env : Env} {Fs : Nat → List Addr} {q : Nat × V} (r : Rel K cs { e with io := q :: e.io } H Z σ env Fs) : Rel K cs e H Z σ env Fs :=
  ⟨r.slot, r.off, r.nd, r.dj, r.dz, r.za, r.own, r.fr, r.th, r.tb, r.z0, r.z1, fun p m => r.io p (List.mem_cons_of_mem _ m), r.gs, r.len⟩
end
end VL
set_option maxHeartbeats 2000000
namespace VL
open PySem PySem.Spec L2 PyProof.Rows RT
/-! ### list(reversed(xs)) -/
section
variable {prog : Program} {w : World} {A : Around} {E : Value → Shared → Prop} {s : Shared}
end
section
variable {X : Cx} {cs : Cs} {a b : Expr} {pos : Pos} {ta tb : TED}
def lrv_ (ta : TED) : TED := fun env Q => ta env fun d => ∃ m, ∃ ns : List Int, d = .lst m (ns.map .int) ∧ Q (.lst true (ns.reverse.map .int))
end
end VL
set_option maxHeartbeats 2000000
namespace VL
open PySem L2 PyProof.Rows
/-! ### defs that change their last argument, called with a slot's own datum -/
structure KnM (P : Program) (w : World) (K : PySem.W.Frag) (mg : Str → Option Value) (base : Heap) (cs : Cs) (x : Str) (k : Nat) (ps : List Str) (io : List Nat) (s : SpM) : Prop where
  ex : ∃ (f : Addr) (fd : FuncData), FnOk P w K mg base CX0 k f fd ps (spOfM K cs io s) ∧ mg x = some (.ref f) ∧ PySem.W.keepIn K (.ref f) = true ∧ Binds K fd ps []
/-- arguments that are looked at, the last one a slot -/
def tOfIo (K : PySem.W.Frag) (cs : Cs) (j : Nat) (t : TAD) : TA := fun σ H Q => ∃ e env Z Fs, Rel K cs e H Z σ env Fs ∧ ∃ QD, t env QD ∧
  ∀ vs H' Z' ds F v, Ext cs H H' Z Z' → RL K cs H' Z' ds vs F → σ[j]? = some (some v) → QD ds → Q (vs ++ [v]) H'
structure VIo (X : Cx) (cs : Cs) (j : Nat) (es : List Expr) (t : TAD) : Prop where
  run : PA X es (tOfIo X.K cs j t)
section
variable {X : Cx} {cs : Cs} {L : List Nat} {a b : Expr} {es : List Expr} {pos : Pos} {ta : TED} {u : TAD}
def ioEnd (j : Nat) : TAD := fun env Q => (∃ d, env[j]? = some (some d)) ∧ Q []
/-- a fresh value that is frozen where it is looked at -/
def frzv_ (ta : TED) : TED := fun env Q => ta env fun d => Q (frz d)
/-- x = f(.., slot j): j's datum is another one behind -/
def setM_ (i j n : Nat) (s : SpM) (u : TAD) : TSD := fun E env => u env fun ds => noOwnL ds = true ∧ ds.length = n ∧ ∃ d, env[j]? = some (some d) ∧ s (ds ++ [d]) fun r ds' => ∃ pre d', ds' = pre ++ [d'] ∧ pre.length = n ∧ E.nx ((env.set j (some d')).set i (some r))
theorem RL.snoc {K : PySem.W.Frag} {H : Hp} {Z : Addr → Prop} {d : D} {v : V} {F : List Addr} (h : R K cs H Z d v F) : ∀ {ds : List D} {vs : List V}, RL K cs H Z ds vs [] → RL K cs H Z (ds ++ [d]) (vs ++ [v]) F
  | [], vs, r => by
    obtain ⟨rfl, _⟩ := r
    exact ⟨v, [], F, [], rfl, h, ⟨rfl, rfl⟩, by simp⟩
  | x :: xs, vs, ⟨w, vs', F1, F2, e, r1, r2, ef⟩ => by
    have e1 : F1 = [] := by
      have : F1 ++ F2 = [] := ef.symm
      exact (List.append_eq_nil_iff.mp this).1
    have e2 : F2 = [] := by
      have : F1 ++ F2 = [] := ef.symm
      exact (List.append_eq_nil_iff.mp this).2
    subst e1 e2
    rw [e]
    exact ⟨w, vs' ++ [v], [], F, rfl, r1, RL.snoc h r2, by simp⟩
theorem RL.last {K : PySem.W.Frag} {H : Hp} {Z : Addr → Prop} {d : D} {v : V} : ∀ {ds : List D} {vs : List V} {F : List Addr}, RL K cs H Z (ds ++ [d]) (vs ++ [v]) F → ds.length = vs.length → ∃ F1, R K cs H Z d v F1 ∧ ∀ a ∈ F1, a ∈ F ∧ (F.Nodup → F1.Nodup)
  | [], vs, F, ⟨w, vs', F1, F2, e, r1, r2, ef⟩, hl => by
    have : vs = [] := List.length_eq_zero_iff.mp hl.symm
    subst this
    have e : [v] = w :: vs' := e
    cases e
    exact ⟨F1, r1, fun a m => ⟨by rw [ef]; exact List.mem_append_left _ m, fun nd => by rw [ef] at nd; exact (List.nodup_append.mp nd).1⟩⟩
  | x :: xs, [], F, _, hl => by simp at hl
  | x :: xs, y :: vs, F, ⟨w, vs', F1, F2, e, r1, r2, ef⟩, hl => by
    have e : y :: (vs ++ [v]) = w :: vs' := e
    cases e
    obtain ⟨G, g1, g2⟩ := RL.last r2 (by simpa using hl)
    exact ⟨G, g1, fun a m => ⟨by rw [ef]; exact List.mem_append_right _ (g2 a m).1, fun nd => by rw [ef] at nd; exact (g2 a m).2 (List.nodup_append.mp nd).2.1⟩⟩
end
end VL
set_option maxHeartbeats 2000000
namespace VL
open PySem L2 PyProof.Rows
section
variable {X : Cx} {cs : Cs} {L : List Nat} {a b : Expr} {es : List Expr} {pos : Pos} {ta : TED} {u : TAD} {i : Nat} {tp : TPD}
/-- raise: never come to -/
def never_ : TSD := fun _ _ => False
/-- x = P.pop(): the last thing, which holds nothing of its own -/
def popv_ (j i : Nat) (tp : TPD) : TSD := fun E env => tp env fun put d => ∃ xs y, d = .lst true (xs ++ [y]) ∧ noOwn y = true ∧ E.nx ((env.set i (some (put (.lst true xs)))).set j (some y))
end
section
variable {K : PySem.W.Frag} {cs : Cs}
def dAddA : D → D → (D → Prop) → Prop
  | .int i, .int j, Q => Q (.int (i + j))
  | .str i, .str j, Q => i.length + j.length ≤ sizeLine ∧ Q (.str (i ++ j))
  | .lst _ xs, .lst _ ys, Q => noOwnL xs = true ∧ noOwnL ys = true ∧ xs.length + ys.length ≤ sizeLine ∧ Q (.lst true (xs ++ ys))
  | .tup xs, .tup ys, Q => noOwnL xs = true ∧ noOwnL ys = true ∧ xs.length + ys.length ≤ sizeLine ∧ Q (.tup (xs ++ ys))
  | _, _, _ => False
end
end VL
set_option maxHeartbeats 2000000
namespace VL
open PySem L2 PyProof.Rows
section
variable {X : Cx} {cs : Cs} {L : List Nat} {a b c : Expr} {es : List Expr} {pos : Pos} {ta : TED} {tg : Expr}
/-- range(i, j, 2) -/
def rngCD (lo c : Int) (n : Nat) : List D := (List.range n).map fun i : Nat => .int (lo + (i : Nat) * c)
def rng3_ (u : TAD) : TAD := fun env Q => u env fun ds => ∃ i j : Int, ds = [.int i, .int j, .int 2] ∧ (-(2 ^ 60) ≤ i ∧ i < 2 ^ 60 ∧ -(2 ^ 60) ≤ j ∧ j < 2 ^ 60) ∧ Q (rngCD i 2 ((j - i + 1) / 2).toNat)
end
section
variable {cs : Cs}
def dStrA1 : D → (D → Prop) → Prop
  | .int i, Q => i.natAbs.log2 < 1920 ∧ Q (.str (toString i))
  | .str s, Q => Q (.str s)
  | _, _ => False
end
end VL
set_option maxHeartbeats 2000000
namespace VL
open PySem L2 PyProof.Rows
section
variable {X : Cx} {cs : Cs} {a b : Expr} {pos : Pos} {ta tb : TED}
/-! ### xs.index(z), a list of texts -/
def lidxS_ (ta tb : TED) : TED := fun env Q => ta env fun d => ∃ m, ∃ ns : List Str, d = .lst m (ns.map .str) ∧ tb env fun y => ∃ k, y = .str k ∧ k ∈ ns ∧ Q (.int (ns.idxOf k : Nat))
end
/-! ### a text again and again -/
def repS (z : Str) (k : Nat) : Str := ⟨(List.replicate k z.cps.toList).flatten.toArray⟩
def dMulS : D → D → (D → Prop) → Prop
  | .str z, .int k, Q => 0 ≤ k ∧ k ≤ 1000 ∧ z.length ≤ 1000 ∧ Q (.str (repS z k.toNat))
  | _, _, _ => False
end VL
set_option maxHeartbeats 2000000
namespace VL
open PySem L2 PyProof.Rows
/-! ### dicts whose keys are ints and texts -/
def keyD : D → Option Key
  | .int i => some (.inl i)
  | .str s => some (.inr s)
  | _ => none
def hasK (ks : List Key) (k : Key) : Bool := ks.any fun j => decide (j = k)
def valD (ks : List Key) (xs : List D) (k : Key) : Option D := ((ks.zip xs).find? fun p => decide (p.1 = k)).map (·.2)
def replX {α : Type} (k : Key) (x : α) : List Key → List α → List α
  | j :: ks, y :: ys => (if j = k then x else y) :: replX k x ks ys
  | _, _ => []
section
variable {K : PySem.W.Frag} {cs : Cs} {H H' : Hp} {Z Z' : Addr → Prop}
theorem keyD_v {d : D} {k : Key} {v : V} {F : List Addr} (h : keyD d = some k) (r : R K cs H Z d v F) : v = kV k := by
  cases d <;> first | (cases h; exact r.1) | cases h
theorem RL.valD {k : Key} {d : D} : ∀ {ks : List Key} {xs : List D} {vs : List V} {F : List Addr}, RL K cs H Z xs vs F → valD ks xs k = some d → ∃ v G, valV (ks.zip vs) k = some v ∧ R K cs H Z d v G
  | [], xs, vs, F, r, h => by simp [VL.valD] at h
  | j :: ks, [], vs, F, r, h => by simp [VL.valD] at h
  | j :: ks, x :: xs, vs, F, r, h => by
    obtain ⟨v, vs', F1, F2, rfl, r1, r2, rfl⟩ := r
    by_cases e : j = k
    · subst e
      have : d = x := by simpa [VL.valD] using h.symm
      subst this
      exact ⟨v, F1, by simp [valV], r1⟩
    · obtain ⟨w, G, h1, h2⟩ := RL.valD (ks := ks) (d := d) r2 (by simpa [VL.valD, e] using h)
      exact ⟨w, G, by simpa [valV, e] using h1, h2⟩
theorem valV_none {k : Key} : ∀ {ks : List Key} {vs : List V}, ks.length = vs.length → ((valV (ks.zip vs) k).isSome = hasK ks k)
  | [], [], _ => rfl
  | [], _ :: _, h => by simp at h
  | _ :: _, [], h => by simp at h
  | j :: ks, v :: vs, h => by
    have e : hasK (j :: ks) k = (decide (j = k) || hasK ks k) := rfl
    rw [e]
    by_cases e : j = k
    · rw [List.zip_cons_cons, valV_pos (by exact e), decide_eq_true e]; rfl
    · have := valV_none (k := k) (ks := ks) (vs := vs) (by simpa using h)
      rw [List.zip_cons_cons, valV_neg (by exact e), this, decide_eq_false e]; rfl
theorem putK_zip_new {k : Key} {v : V} {ks : List Key} {vs : List V} (h : ks.length = vs.length) (hk : hasK ks k = false) : putK (ks.zip vs) k v = (ks ++ [k]).zip (vs ++ [v]) := by
  rw [putK_new v (by have := valV_none (k := k) h; rw [hk] at this; exact Option.not_isSome_iff_eq_none.mp (by rw [this]; exact Bool.false_ne_true)), List.zip_append h]
  rfl
theorem repl_zip (k : Key) (v : V) : ∀ (ks : List Key) (vs : List V), ks.length = vs.length → (ks.zip vs).map (fun kv => if kv.1 = k then (kv.1, v) else kv) = ks.zip (replX k v ks vs)
  | [], [], _ => rfl
  | [], _ :: _, h => by simp at h
  | _ :: _, [], h => by simp at h
  | j :: ks, w :: vs, h => by
    have := repl_zip k v ks vs (by simpa using h)
    rw [List.zip_cons_cons, List.map_cons, this]
    show (if j = k then (j, v) else (j, w)) :: _ = (j, if j = k then v else w) :: _
    split <;> rfl
theorem replX_len {α : Type} {k : Key} {x : α} : ∀ {ks : List Key} {xs : List α}, ks.length = xs.length → (replX k x ks xs).length = ks.length
  | [], [], _ => rfl
  | [], _ :: _, h => by simp at h
  | _ :: _, [], h => by simp at h
  | j :: ks, y :: ys, h => by rw [replX, List.length_cons, List.length_cons, replX_len (by simpa using h)]
theorem RL.replX {k : Key} {x : D} {w : V} (rx : R K cs H Z x w []) : ∀ {ks : List Key} {xs : List D} {vs : List V}, RL K cs H Z xs vs [] → RL K cs H Z (replX k x ks xs) (replX k w ks vs) []
  | [], xs, vs, r => by cases xs <;> exact ⟨rfl, rfl⟩
  | j :: ks, [], vs, r => by rw [r.1]; exact ⟨rfl, rfl⟩
  | j :: ks, y :: ys, vs, r => by
    obtain ⟨v, vs', F1, F2, rfl, r1, r2, e⟩ := r
    have e := List.append_eq_nil_iff.mp e.symm
    rw [e.1] at r1; rw [e.2] at r2
    refine ⟨_, _, [], [], rfl, ?_, RL.replX rx r2, rfl⟩
    split
    · exact rx
    · exact r1
theorem R.dicv {m : Bool} {ks : List Key} {xs : List D} {v : V} {F : List Addr} (h : R K cs H Z (.dic m ks xs) v F) : ∃ a vs F', v = .ref a ∧ H a = some (.dK (ks.zip vs)) ∧ ks.length = xs.length ∧ RL K cs H Z xs vs F' := by
  cases m with
  | true => obtain ⟨a, vs, F', e, t, l, r, _⟩ := h; exact ⟨a, vs, F', e, t, l, r⟩
  | false => obtain ⟨a, vs, e, t, z, l, r, _⟩ := h; exact ⟨a, vs, [], e, t, l, r⟩
end
section
variable {X : Cx} {cs : Cs} {L : List Nat} {a b c : Expr} {pos : Pos} {ta tb : TED} {tp : TPD} {i : Nat}
/-- {} -/
def dnew_ : TED := fun _ Q => Q (.dic true [] [])
theorem vt_dnew : VT X cs (.Dict [] [] pos) dnew_ :=
  ⟨pe_weak pe_dnewK fun σ H Q ⟨e, env, Z, Fs, rl, QD, q, k⟩ => fun p hp => by
    refine k _ _ Z (.dic true [] []) [p] (Ext.of (same_upd hp)) ⟨p, [], [], rfl, upd_same, rfl, ⟨rfl, rfl⟩, rfl⟩ (by simp) (fun a m => ?_) q
    rw [List.mem_singleton.mp m]
    exact ⟨hp, rl.nz hp⟩⟩
/-- k in d -/
def dInK (neg : Bool) : D → D → (D → Prop) → Prop
  | x, .dic _ ks _, Q => ∃ k, keyD x = some k ∧ Q (.bl (if neg then !hasK ks k else hasK ks k))
  | _, _, _ => False
def rInK (neg : Bool) : R2 := fun y x H Q => ∃ a o, x = .ref a ∧ DGet H a y o ∧ Q (.bl (if neg then !o.isSome else o.isSome)) H
theorem op_inK (hu : X.A.units + 64 < cLine) : OpR X (compareOp .In) (rInK false) := by
  intro pins s σ H y x u v Q I ry rx ⟨a, o, e, g, q⟩
  subst e
  obtain rfl : v = Value.ref a := rx
  exact d_in (by omega) I g ry fun s3 I3 => ⟨.bl o.isSome, H, I3, rfl, q⟩
theorem od_inK {K : PySem.W.Frag} {neg : Bool} : OD K cs (rInK neg) (dInK neg) := by
  intro H Z Q QD x y v w F G za rx ry q k
  cases y with
  | dic m ks xs =>
    have q : ∃ k, keyD x = some k ∧ QD (.bl (if neg then !hasK ks k else hasK ks k)) := by cases x <;> exact q
    obtain ⟨k0, hk, q⟩ := q
    obtain ⟨a, vs, F', rfl, t, l, r⟩ := R.dicv ry
    have ev := keyD_v hk rx
    subst ev
    refine ⟨a, _, rfl, DGet.k t, fin_at (d := .bl _) k ⟨rfl, rfl⟩ ?_⟩
    rw [valV_none (by rw [l, r.len])]
    exact q
  | _ => cases x <;> exact False.elim q
/-- d[k] -/
def dDix : D → D → (D → Prop) → Prop
  | .dic _ ks xs, y, Q => ∃ k, keyD y = some k ∧ ∃ d, valD ks xs k = some d ∧ Q d
  | _, _, _ => False
/-- a dict at a place is written -/
theorem Rel.foc_dicw {K : PySem.W.Frag} {e : En} {H : Hp} {Z : Addr → Prop} {σ : L2.St} {env : Env} {Fs : Nat → List Addr} (r : Rel K cs e H Z σ env Fs) {d : D} {v u : V} {put : D → D} {ks : List Key} {xs : List D} (hd : env[i]? = some (some d)) (hσ : σ[i]? = some (some v)) (f : Foc K cs H Z v (Fs i) (.dic true ks xs) u put) :
    ∃ p vs, u = .ref p ∧ H p = some (.dK (ks.zip vs)) ∧ ks.length = vs.length ∧ vs.length = xs.length ∧ ∀ (ks' : List Key) (xs' : List D) (vs' : List V) (Fx : List Addr), ks'.length = xs'.length → (∀ a ∈ Fx, ¬ Z a ∧ (∃ o, H a = some o) ∧ (∀ j, a ∉ Fs j) ∧ (e.W a ∨ e.H0 a = none)) →
      (∀ F', RL K cs H Z xs vs F' → F'.Nodup → (∀ a ∈ F', a ∉ Fx) → ∃ F'', RL K cs H Z xs' vs' F'' ∧ F''.Nodup ∧ ∀ a ∈ F'', a ∈ F' ∨ a ∈ Fx) → ∃ Fs', Rel K cs e (upd H p (.dK (ks'.zip vs'))) Z σ (env.set i (some (put (.dic true ks' xs')))) Fs' := by
  obtain ⟨Fe0, re0⟩ := f.here
  obtain ⟨p, vs, F0, rfl, t, l, rl0, _⟩ := re0
  refine ⟨p, vs, rfl, t, by rw [l, rl0.len], rl0.len, fun ks' xs' vs' Fx l' hx hr => ?_⟩
  obtain ⟨Fs', r', _⟩ := r.foc_put (H' := upd H p (.dK (ks'.zip vs'))) (Z' := Z) (x' := .dic true ks' xs') hd hσ f fun F1 Fe F2 hF nd hm re => by
    obtain ⟨q, ws, F', e1, t1, l1, rl, hFe⟩ := re
    cases e1
    rw [t] at t1
    have t1 := Option.some.inj t1
    injection t1 with t1
    have hws : ws = vs := by
      have h1 := congrArg (List.map Prod.snd) t1
      rw [List.map_snd_zip (by rw [rl0.len, l]; exact Nat.le_refl _), List.map_snd_zip (by rw [rl.len, l1]; exact Nat.le_refl _)] at h1
      exact h1.symm
    subst hws
    subst hFe
    have inFs : ∀ a ∈ p :: F', a ∈ Fs i := fun a m => by rw [hF]; simp only [List.mem_append]; exact .inr (.inl m)
    have np := List.nodup_cons.mp nd
    obtain ⟨F'', rl2, nd2, h2⟩ := hr F' rl np.2 fun a m n => (hx a n).2.2.1 i (inFs a (List.mem_cons_of_mem _ m))
    have np2 : p ∉ F'' := fun m => by
      rcases h2 p m with m | m
      · exact np.1 m
      · exact (hx p m).2.2.1 i (inFs p List.mem_cons_self)
    refine ⟨p :: F'', ⟨p, vs', F'', rfl, upd_same, l', RL.writes rl2 t trivial np2 (hm p List.mem_cons_self).2.2.1, rfl⟩, fun _ z => z, fun _ z => .inl z, fun a o ho q => ?_, List.nodup_cons.mpr ⟨np2, nd2⟩, fun a m => ?_⟩
    · rw [upd_ne]
      · exact ho
      · intro w; subst w
        rw [t] at ho; cases ho
        rcases q with q | q
        · exact q List.mem_cons_self
        · exact q trivial
    · rcases List.mem_cons.mp m with rfl | m
      · exact ⟨(hm a List.mem_cons_self).2.2.1, .inl List.mem_cons_self⟩
      · rcases h2 a m with m | m
        · exact ⟨(hm a (List.mem_cons_of_mem _ m)).2.2.1, .inl (List.mem_cons_of_mem _ m)⟩
        · exact ⟨(hx a m).1, .inr (hx a m).2.2⟩
  exact ⟨Fs', r'⟩
/-- what is behind d[k] = x -/
def dPutK (ks : List Key) (xs : List D) (k : Key) (x : D) (Q : D → Prop) : Prop :=
  xs.length < sizeLine ∧ (hasK ks k = false → Q (.dic true (ks ++ [k]) (xs ++ [x]))) ∧ (hasK ks k = true → noOwnL xs = true ∧ noOwn x = true ∧ Q (.dic true ks (replX k x ks xs)))
/-- P[k] = e, P a dict -/
def pdset_ (i : Nat) (tp : TPD) (tb : TED) (ta : TED) : TSD := fun E env => ta env fun x => tp env fun put d => tb env fun k => ∃ ks xs, d = .dic true ks xs ∧ ∃ k0, keyD k = some k0 ∧ dPutK ks xs k0 x fun d' => E.nx (env.set i (some (put d')))
theorem putK_zip_old {k : Key} {v : V} {ks : List Key} {vs : List V} (h : ks.length = vs.length) (hk : hasK ks k = true) : putK (ks.zip vs) k v = ks.zip (replX k v ks vs) := by
  have : (valV (ks.zip vs) k).isSome = true := by rw [valV_none h]; exact hk
  unfold putK
  rw [valV_any, this, if_pos rfl]
  exact repl_zip k v ks vs h
theorem vs_pdset (hu : X.A.units + 64 < cLine) {o k : Expr} {p1 : Pos} (ha : VT X cs a ta) (ho : VPa X cs i o tp) (hb : VP X cs k tb) (hs : swapsWith a (some (.Subscript o k p1)) pos.line X.env = pure false := by rfl) : VS X cs L (.Assign [.Subscript o k p1] a pos) (pdset_ i tp tb ta) :=
  ⟨fun e hl => ps_weak (ps_dput (by omega) ho.run hb.run ha.run hs) fun D σ H ⟨env, Z, Fs, E, rl, q, ok⟩ => ⟨e, env, Z, Fs, rl, _, q, fun w H1 Z1 dx F x1 rx nd fre q => by
    have rl1 := rl.ext x1
    refine ⟨e, env, Z1, Fs, rl1, _, q, fun u H2 Z2 put d0 d v x2 hσ hd fo q => ?_⟩
    have rl2 := rl1.ext x2
    refine ⟨e, env, Z2, Fs, rl2, _, q, fun kv H3 Z3 dk Fk x3 rk ⟨ks, xs, ex, k0, hk, hz, q5, q6⟩ => ?_⟩
    subst ex
    have ek := keyD_v hk rk
    subst ek
    have rl3 := rl2.ext x3
    obtain ⟨p, vs, rfl, t, hl0, hl1, up⟩ := rl3.foc_dicw hd hσ (fo.ext x3)
    have x23 := x2.trans x3
    have nw := rl.newto rx fre
    have nw3 : ∀ a ∈ F, ¬ Z3 a ∧ (∃ o, H3 a = some o) ∧ (∀ j, a ∉ Fs j) ∧ (e.W a ∨ e.H0 a = none) := fun a m => by
      obtain ⟨o, w⟩ := (nw a m).2.1
      refine ⟨fun z => ?_, x23.same.there _ o w, (nw a m).2.2⟩
      rcases x23.new a z with z | ⟨z, _⟩
      · exact (nw a m).1 z
      · rw [z] at w; cases w
    refine ⟨p, _, rfl, DPut.k t (by rw [List.length_zip]; omega), ?_⟩
    cases hh : hasK ks k0 with
    | false =>
      obtain ⟨Fs', r'⟩ := up (ks ++ [k0]) (xs ++ [dx]) (vs ++ [w]) F (by simp [hl0, hl1]) nw3 fun F' r nd' dj => ⟨F' ++ F, RL.app r (RL.one (rx.ext x23)), List.nodup_append.mpr ⟨nd', nd, fun a m b n e => by subst e; exact dj a m n⟩, fun a m => List.mem_append.mp m⟩
      rw [← putK_zip_new hl0 hh] at r'
      exact ok.nx σ _ Z3 _ Fs' r' (q5 hh)
    | true =>
      obtain ⟨n1, n2, q7⟩ := q6 hh
      have eF := R.noF dx w F n2 rx
      subst eF
      obtain ⟨Fs', r'⟩ := up ks (replX k0 dx ks xs) (replX k0 w ks vs) [] (by rw [replX_len (by rw [hl0, hl1])]) nw3 fun F' r nd' dj => ⟨[], RL.replX (rx.ext x23) (RL.noF0 r n1), List.nodup_nil, fun a m => by cases m⟩
      rw [← putK_zip_old hl0 hh] at r'
      exact ok.nx σ _ Z3 _ Fs' r' q7⟩⟩
/-- P.setdefault(k, e), P a dict -/
def pdsd_ (i : Nat) (tp : TPD) (tb : TED) (ta : TED) : TSD := fun E env => tp env fun put d => ∃ ks xs, d = .dic true ks xs ∧ tb env fun k => ta env fun x => ∃ k0, keyD k = some k0 ∧ xs.length < sizeLine ∧ noOwn x = true ∧
  (hasK ks k0 = false → E.nx (env.set i (some (put (.dic true (ks ++ [k0]) (xs ++ [x])))))) ∧ (hasK ks k0 = true → E.nx env)
end
end VL
set_option maxHeartbeats 2000000
namespace VL
open PySem L2 PyProof.Rows
/-! ### a frame with values on top: arguments that wait -/
section
variable {K : PySem.W.Frag} {cs : Cs} {e : En} {H H' : Hp} {Z Z' : Addr → Prop} {σ : L2.St} {env : Env} {Fs : Nat → List Addr} {vs : List V} {ds : List D}
theorem Rel.trunc (r : Rel K cs e H Z (σ ++ vs.map some) (env ++ ds.map some) Fs) (hl : env.length = σ.length) (hio : ∀ p ∈ e.io, p.1 < σ.length) : Rel K cs e H Z σ env (fun i => if i < σ.length then Fs i else []) := by
  refine ⟨fun i d h => ?_, fun i h => ?_, fun i => ?_, fun i j a ij m => ?_, fun i a m => ?_, r.za, fun i a m => ?_, r.fr, r.th, r.tb, r.z0, r.z1, fun p m => ?_, r.gs, hl.symm⟩
  · have hi : i < env.length := (List.getElem?_eq_some_iff.mp h).1
    obtain ⟨v, h1, h2⟩ := r.slot i d (by rw [List.getElem?_append_left hi]; exact h)
    rw [List.getElem?_append_left (by omega)] at h1
    exact ⟨v, h1, by rw [if_pos (by omega)]; exact h2⟩
  · show (if i < σ.length then Fs i else []) = []
    split
    · rename_i hi
      exact r.off i fun d z => h d (by rw [List.getElem?_append_left (by omega)] at z; exact z)
    · rfl
  · show (if i < σ.length then Fs i else []).Nodup
    split
    · exact r.nd i
    · exact List.nodup_nil
  · have m : a ∈ (if i < σ.length then Fs i else []) := m
    show a ∉ (if j < σ.length then Fs j else [])
    split at m
    · split
      · exact r.dj i j a ij m
      · exact fun z => by cases z
    · cases m
  · have m : a ∈ (if i < σ.length then Fs i else []) := m
    split at m
    · exact r.dz i a m
    · cases m
  · have m : a ∈ (if i < σ.length then Fs i else []) := m
    split at m
    · exact r.own i a m
    · cases m
  · have := r.io p m
    rwa [List.getElem?_append_left (hio p m)] at this
theorem Rel.push (r : Rel K cs e H Z σ env Fs) {d : D} {v : V} {F : List Addr} (rd : R K cs H Z d v F) (nd : F.Nodup) (hF : ∀ a ∈ F, ¬ Z a ∧ (e.W a ∨ e.H0 a = none) ∧ ∀ j, a ∉ Fs j) :
    Rel K cs e H Z (σ ++ [some v]) (env ++ [some d]) (fun i => if i = σ.length then F else Fs i) := by
  have hl := r.len
  have out : ∀ i, σ.length ≤ i → Fs i = [] := fun i hi => r.off i fun d z => by
    have := (List.getElem?_eq_some_iff.mp z).1
    omega
  refine ⟨fun i x h => ?_, fun i h => ?_, fun i => ?_, fun i j a ij m => ?_, fun i a m => ?_, r.za, fun i a m => ?_, r.fr, r.th, r.tb, r.z0, r.z1, fun p m => ?_, r.gs, by simp [hl]⟩
  · by_cases hi : i < env.length
    · rw [List.getElem?_append_left hi] at h
      obtain ⟨w, h1, h2⟩ := r.slot i x h
      exact ⟨w, by rw [List.getElem?_append_left (by omega)]; exact h1, by rw [if_neg (by omega)]; exact h2⟩
    · rw [List.getElem?_append_right (by omega)] at h
      have h0 : i - env.length = 0 := by
        have := (List.getElem?_eq_some_iff.mp h).1
        simp at this; omega
      rw [h0] at h
      cases h
      refine ⟨v, ?_, by rw [if_pos (by omega)]; exact rd⟩
      rw [List.getElem?_append_right (by omega), show i - σ.length = 0 by omega]; rfl
  · show (if i = σ.length then F else Fs i) = []
    split
    · rename_i hi
      exact absurd (by rw [List.getElem?_append_right (by omega), show i - env.length = 0 by omega]; rfl) (h d)
    · by_cases hi : i < env.length
      · exact r.off i fun x z => h x (by rw [List.getElem?_append_left hi]; exact z)
      · exact out i (by omega)
  · show (if i = σ.length then F else Fs i).Nodup
    split
    · exact nd
    · exact r.nd i
  · have m : a ∈ (if i = σ.length then F else Fs i) := m
    show a ∉ (if j = σ.length then F else Fs j)
    split at m
    · split
      · rename_i h1 h2; exact absurd (h1.trans h2.symm) ij
      · exact (hF a m).2.2 j
    · split
      · exact fun z => (hF a z).2.2 i m
      · exact r.dj i j a ij m
  · have m : a ∈ (if i = σ.length then F else Fs i) := m
    split at m
    · exact (hF a m).1
    · exact r.dz i a m
  · have m : a ∈ (if i = σ.length then F else Fs i) := m
    split at m
    · exact (hF a m).2.1
    · exact r.own i a m
  · have := r.io p m
    have hp : p.1 < σ.length := (List.getElem?_eq_some_iff.mp this).1
    rw [List.getElem?_append_left hp]; exact this
/-- the value on top is taken -/
theorem Rel.pop {d : D} {v : V} (r : Rel K cs e H Z (σ ++ [some v]) (env ++ [some d]) Fs) (hl : env.length = σ.length) (hio : ∀ p ∈ e.io, p.1 < σ.length) :
    ∃ F, R K cs H Z d v F ∧ F.Nodup ∧ (∀ a ∈ F, ¬ Z a ∧ (e.W a ∨ e.H0 a = none) ∧ ∀ j, a ∉ (if j < σ.length then Fs j else [])) ∧ Rel K cs e H Z σ env (fun i => if i < σ.length then Fs i else []) := by
  obtain ⟨w, h1, h2⟩ := r.slot env.length d (by rw [List.getElem?_append_right (Nat.le_refl _), Nat.sub_self]; rfl)
  rw [List.getElem?_append_right (by omega), show env.length - σ.length = 0 by omega] at h1
  have h1 := Option.some.inj (Option.some.inj h1)
  subst h1
  refine ⟨Fs env.length, h2, r.nd _, fun a m => ⟨r.dz _ a m, r.own _ a m, fun j n => ?_⟩, Rel.trunc (vs := [v]) (ds := [d]) r hl hio⟩
  split at n
  · rename_i hj
    exact r.dj j env.length a (by omega) n m
  · cases n
/-- slots whose things another def has written -/
theorem Rel.iochs (r : Rel K cs e H Z σ env Fs) (S : List Nat) (env' : Env) (G : Nat → List Addr) (hlen : env'.length = env.length) (same : ∀ j, j ∉ S → env'[j]? = env[j]?)
    (inS : ∀ j ∈ S, ∃ d, env[j]? = some (some d)) (new : ∀ j ∈ S, ∃ d' v, env'[j]? = some (some d') ∧ σ[j]? = some (some v) ∧ R K cs H' Z' d' v (G j))
    (up : ∀ a, Z a → Z' a) (zn : ∀ a, Z' a → Z a ∨ (∃ j ∈ S, a ∈ Fs j) ∨ H a = none) (za : ∀ a, Z' a → ∃ o, H' a = some o) (kp : ∀ a o, H a = some o → NT o → (∀ j ∈ S, a ∉ Fs j) → H' a = some o)
    (kt : ∀ a o, H a = some o → (∀ j ∈ S, a ∉ Fs j) → ∃ o', H' a = some o') (tb : LamX.Tabs cs.tb H') (nd : ∀ j ∈ S, (G j).Nodup) (dj : ∀ i ∈ S, ∀ j ∈ S, i ≠ j → ∀ a ∈ G i, a ∉ G j) (hG : ∀ j ∈ S, ∀ a ∈ G j, ¬ Z' a ∧ ((∃ k ∈ S, a ∈ Fs k) ∨ H a = none)) :
    Rel K cs e H' Z' σ env' (fun k => if k ∈ S then G k else Fs k) := by
  have noF : ∀ b, H b = none → ∀ k, b ∉ Fs k := fun b hb k m => by
    obtain ⟨o, w⟩ := r.alloc m
    rw [hb] at w; cases w
  have keep : ∀ (F : List Addr), (∀ b ∈ F, ∀ j ∈ S, b ∉ Fs j) → ∀ dm vm, R K cs H Z dm vm F → R K cs H' Z' dm vm F := fun F hF dm vm rm => R.keep up dm vm F (fun b o eb nb hbm => kp b o eb nb fun j hj z => by
    rcases hbm with hb | hb | hb
    · exact hF b hb j hj z
    · exact r.dz j b z hb
    · obtain ⟨d, hd⟩ := inS j hj
      obtain ⟨v', _, rv⟩ := r.slot j d hd
      obtain ⟨o', eo, mo⟩ := R.allocM d v' (Fs j) rv b z
      rw [eb] at eo; cases eo
      exact hb (Mu.mut mo)) rm
  refine ⟨fun k x q => ?_, fun k q => ?_, fun k => ?_, fun k l a kl m => ?_, fun k a m => ?_, za, fun k a m => ?_, fun a o h nt w => ?_, fun a o h => ?_, tb, fun a z => up a (r.z0 a z), fun a z => ?_, r.io, fun p m => keep [] (fun b m => by cases m) _ _ (r.gs p m), by rw [hlen]; exact r.len⟩
  · by_cases ek : k ∈ S
    · obtain ⟨d', v, h1, h2, h3⟩ := new k ek
      rw [h1] at q
      cases q
      exact ⟨v, h2, by rw [if_pos ek]; exact h3⟩
    · rw [same k ek] at q
      obtain ⟨w, h1, h2⟩ := r.slot k x q
      exact ⟨w, h1, by rw [if_neg ek]; exact keep (Fs k) (fun b mb j hj => r.dj k j b (fun z => ek (z ▸ hj)) mb) x w h2⟩
  · show (if k ∈ S then G k else Fs k) = []
    by_cases ek : k ∈ S
    · obtain ⟨d', v, h1, _⟩ := new k ek
      exact absurd h1 (q d')
    · rw [if_neg ek]
      exact r.off k fun x w => q x (by rw [same k ek]; exact w)
  · show (if k ∈ S then G k else Fs k).Nodup
    by_cases ek : k ∈ S
    · rw [if_pos ek]; exact nd k ek
    · rw [if_neg ek]; exact r.nd k
  · show a ∉ (if l ∈ S then G l else Fs l)
    have m : a ∈ (if k ∈ S then G k else Fs k) := m
    by_cases ek : k ∈ S
    · rw [if_pos ek] at m
      by_cases el : l ∈ S
      · rw [if_pos el]; exact dj k ek l el kl a m
      · rw [if_neg el]
        rcases (hG k ek a m).2 with ⟨i, hi, z⟩ | z
        · exact r.dj i l a (fun w => el (w ▸ hi)) z
        · exact noF a z l
    · rw [if_neg ek] at m
      by_cases el : l ∈ S
      · rw [if_pos el]
        intro n
        rcases (hG l el a n).2 with ⟨i, hi, z⟩ | z
        · exact r.dj k i a (fun w => ek (w ▸ hi)) m z
        · exact noF a z k m
      · rw [if_neg el]; exact r.dj k l a kl m
  · have m : a ∈ (if k ∈ S then G k else Fs k) := m
    by_cases ek : k ∈ S
    · rw [if_pos ek] at m; exact (hG k ek a m).1
    · rw [if_neg ek] at m
      intro z
      rcases zn a z with z | ⟨i, hi, z⟩ | z
      · exact r.dz k a m z
      · exact r.dj k i a (fun w => ek (w ▸ hi)) m z
      · exact noF a z k m
  · have m : a ∈ (if k ∈ S then G k else Fs k) := m
    by_cases ek : k ∈ S
    · rw [if_pos ek] at m
      rcases (hG k ek a m).2 with ⟨i, hi, z⟩ | z
      · exact r.own i a z
      · exact r.free0 z
    · rw [if_neg ek] at m; exact r.own k a m
  · refine kp a o (r.fr a o h nt w) nt fun j hj z => ?_
    rcases r.own j a z with q | q
    · exact w q
    · rw [h] at q; cases q
  · rcases r.th a o h with w | ⟨o1, w⟩
    · exact .inl w
    · by_cases z : ∃ j ∈ S, a ∈ Fs j
      · obtain ⟨j, hj, z⟩ := z
        rcases r.own j a z with q | q
        · exact .inl q
        · rw [h] at q; cases q
      · exact .inr (kt a o1 w fun j hj y => z ⟨j, hj, y⟩)
  · rcases zn a z with z | ⟨j, hj, z⟩ | z
    · exact r.z1 a z
    · rcases r.own j a z with q | q
      · exact .inr (.inr q)
      · exact .inr (.inl q)
    · rcases r.free0 z with q | q
      · exact .inr (.inr q)
      · exact .inr (.inl q)
end
end VL
set_option maxHeartbeats 2000000
namespace VL
open PySem L2 PyProof.Rows
/-! ### calls that change slots, or raise -/
/-- an exception of ours -/
def IsX (cs : Cs) (xc : XC) (cls : Value) (d : Option Addr) (H : Hp) : Prop :=
  ∃ a, (xc.cls, a) ∈ cs.xc ∧ cls = .ref a ∧ (∀ i, xc.row = some i → ∃ dd, d = some dd ∧ H dd = some (.xd [("row", .int i)])) ∧ (xc.row = none → d = none)
/-- what a call leaves -/
structure Bk (K : PySem.W.Frag) (cs : Cs) (H H' : Hp) (Z Z' : Addr → Prop) (F : List Addr) : Prop where
  up : ∀ a, Z a → Z' a
  zn : ∀ a, Z' a → Z a ∨ a ∈ F ∨ H a = none
  za : ∀ a, Z' a → ∃ o, H' a = some o
  kp : ∀ a o, H a = some o → NT o → a ∉ F → H' a = some o
  kt : ∀ a o, H a = some o → a ∉ F → ∃ o', H' a = some o'
  tb : LamX.Tabs cs.tb H'
abbrev SpG := List D → (D → List D → Prop) → (XC → List D → Prop) → Prop
/-- the promise of a def that changes its arguments at the places io, and may raise -/
def spOfG (K : PySem.W.Frag) (cs : Cs) (io : List Nat) (s : SpG) : Sp := fun vs H Q E => LamX.Tabs cs.tb H ∧ ∃ Z ds F, (∀ a, Z a → ∃ o, H a = some o) ∧ RL K cs H Z ds vs F ∧ F.Nodup ∧ (∀ a ∈ F, ¬ Z a) ∧ (∀ (i : Nat) d, ds[i]? = some d → i ∉ io → noOwn d = true) ∧ ∃ QD QX, s ds QD QX ∧
  (∀ v H' Z' r ds' Fr F', Bk K cs H H' Z Z' F → RL K cs H' Z' ds' vs F' → R K cs H' Z' r v Fr → (F' ++ Fr).Nodup → (∀ a ∈ F' ++ Fr, ¬ Z' a ∧ (a ∈ F ∨ H a = none)) → QD r ds' → Q v H') ∧
  (∀ xc cls d H' Z' ds' F', Bk K cs H H' Z Z' F → RL K cs H' Z' ds' vs F' → F'.Nodup → (∀ a ∈ F', ¬ Z' a ∧ (a ∈ F ∨ H a = none)) → IsX cs xc cls d H' → QX xc ds' → E cls d H')
abbrev TXE := Env → (Env → D → Prop) → (XC → Env → Prop) → Prop
abbrev TXA := Env → (Env → List D → Prop) → (XC → Env → Prop) → Prop
def tOfE (K : PySem.W.Frag) (cs : Cs) (W : WX) (en : En) (t : TXE) : TE := fun σ H Q => ∃ vs ds env Z Fs, env.length = σ.length ∧ vs.length = ds.length ∧ (∀ p ∈ en.io, p.1 < σ.length) ∧ Rel K cs en H Z (σ ++ vs.map some) (env ++ ds.map some) Fs ∧ ∃ QD QX, t env QD QX ∧
  (∀ v H' Z' env' d Fs', env'.length = σ.length → Rel K cs en H' Z' (σ ++ (vs ++ [v]).map some) (env' ++ (ds ++ [d]).map some) Fs' → QD env' d → Q v H') ∧
  (∀ xc env' H' Z' Fs' cls d, env'.length = σ.length → Rel K cs en H' Z' σ env' Fs' → IsX cs xc cls d H' → QX xc env' → W cls d σ H')
structure VE (X : Cx) (cs : Cs) (W : WX) (e : Expr) (t : TXE) : Prop where
  run : ∀ en : En, PE X e (tOfE X.K cs W en t)
/-- how an argument list stands: a slot's name, or a value of its own -/
inductive KdOk (σ : L2.St) : List (Option Nat) → List V → List V → Prop
  | nil : KdOk σ [] [] []
  | io {j : Nat} {u : V} {ks : List (Option Nat)} {us ws : List V} (h : σ[j]? = some (some u)) (r : KdOk σ ks us ws) : KdOk σ (some j :: ks) (u :: us) ws
  | tmp {u : V} {ks : List (Option Nat)} {us ws : List V} (r : KdOk σ ks us ws) : KdOk σ (none :: ks) (u :: us) (u :: ws)
def tOfAs (K : PySem.W.Frag) (cs : Cs) (W : WX) (en : En) (kinds : List (Option Nat)) (t : TXA) : TA := fun σ H Q => ∃ vs ds env Z Fs, env.length = σ.length ∧ vs.length = ds.length ∧ (∀ p ∈ en.io, p.1 < σ.length) ∧ Rel K cs en H Z (σ ++ vs.map some) (env ++ ds.map some) Fs ∧ ∃ QD QX, t env QD QX ∧
  (∀ us ws ts H' Z' env' Fs', env'.length = σ.length → KdOk σ kinds us ws → ts.length = ws.length → Rel K cs en H' Z' (σ ++ (vs ++ ws).map some) (env' ++ (ds ++ ts).map some) Fs' → QD env' ts → Q us H') ∧
  (∀ xc env' H' Z' Fs' cls d, env'.length = σ.length → Rel K cs en H' Z' σ env' Fs' → IsX cs xc cls d H' → QX xc env' → W cls d σ H')
structure VAs (X : Cx) (cs : Cs) (W : WX) (kinds : List (Option Nat)) (es : List Expr) (t : TXA) : Prop where
  run : ∀ en : En, PA X es (tOfAs X.K cs W en kinds t)
section
variable {X : Cx} {cs : Cs} {W : WX} {a b : Expr} {es : List Expr} {kinds : List (Option Nat)} {ta : TED} {t : TXE} {u : TXA}
def pt_ (ta : TED) : TXE := fun env QD _ => ta env fun d => QD env d
theorem ve_vt (h : VT X cs a ta) : VE X cs W a (pt_ ta) :=
  ⟨fun en => pe_weak h.run fun σ H Q ⟨vs, ds, env, Z, Fs, hl, hl2, hio, rl, QD, QX, q, k, _⟩ => ⟨en, env, Z, _, rl.trunc hl hio, _, q, fun v H' Z' d F x r nd fre z => by
    have := (rl.ext x).push r nd fun a m => ⟨(fre a m).2, rl.free0 (fre a m).1, fun j n => by
      obtain ⟨o, w⟩ := rl.alloc n
      rw [(fre a m).1] at w; cases w⟩
    rw [List.append_assoc, List.append_assoc] at this
    exact k v H' Z' env d _ hl (by rw [List.map_append, List.map_append]; exact this) z⟩⟩
def nilx_ : TXA := fun env QD _ => QD env []
theorem vas_nil : VAs X cs W [] [] nilx_ := ⟨fun en => pa_weak pa_nil fun σ H Q ⟨vs, ds, env, Z, Fs, hl, hl2, hio, rl, QD, QX, q, k, _⟩ => k [] [] [] H Z env Fs hl .nil rfl (by simpa using rl) q⟩
def iox_ (j : Nat) (u : TXA) : TXA := fun env QD QX => (∃ d, env[j]? = some (some d)) ∧ u env QD QX
theorem vas_io (j : Nat) (hv : PE X a (tVar j)) (h : VAs X cs W kinds es u) (hs : starEach (a :: es) X.env = (false, eval a X.env) :: starEach es X.env := by rfl) : VAs X cs W (some j :: kinds) (a :: es) (iox_ j u) :=
  ⟨fun en => pa_weak (pa_cons hv (h.run en) hs) fun σ H Q ⟨vs, ds, env, Z, Fs, hl, hl2, hio, rl, QD, QX, ⟨⟨d, hd⟩, q⟩, k, kx⟩ => by
    obtain ⟨v, h1, h2⟩ := (rl.trunc hl hio).slot j d hd
    exact ⟨v, h1, vs, ds, env, Z, Fs, hl, hl2, hio, rl, QD, QX, q, fun us ws ts H' Z' env' Fs' a1 a2 a3 a4 a5 => k (v :: us) ws ts H' Z' env' Fs' a1 (.io h1 a2) a3 a4 a5, kx⟩⟩
def tmpx_ (t : TXE) (u : TXA) : TXA := fun env QD QX => t env (fun env1 d => u env1 (fun env2 ts => QD env2 (d :: ts)) QX) QX
theorem vas_tmp (ha : VE X cs W a t) (h : VAs X cs W kinds es u) (hs : starEach (a :: es) X.env = (false, eval a X.env) :: starEach es X.env := by rfl) : VAs X cs W (none :: kinds) (a :: es) (tmpx_ t u) :=
  ⟨fun en => pa_weak (pa_cons (ha.run en) (h.run en) hs) fun σ H Q ⟨vs, ds, env, Z, Fs, hl, hl2, hio, rl, QD, QX, q, k, kx⟩ => by
    refine ⟨vs, ds, env, Z, Fs, hl, hl2, hio, rl, _, _, q, fun v H1 Z1 env1 d Fs1 hl1 rl1 q1 => ⟨vs ++ [v], ds ++ [d], env1, Z1, Fs1, hl1, by simp [hl2], hio, rl1, _, _, q1, fun us ws ts H' Z' env' Fs' a1 a2 a3 a4 a5 => ?_, kx⟩, kx⟩
    refine k (v :: us) (v :: ws) (d :: ts) H' Z' env' Fs' a1 (.tmp a2) (by simp [a3]) ?_ a5
    rw [List.append_cons, List.append_cons ds]
    exact a4⟩
end
/-! ### the arguments' data -/
def getK : List (Option Nat) → Env → List D → Option (List D)
  | [], _, _ => some []
  | some j :: ks, env, ts => match env[j]? with
    | some (some d) => (getK ks env ts).map (d :: ·)
    | _ => none
  | none :: ks, env, t :: ts => (getK ks env ts).map (t :: ·)
  | none :: _, _, [] => none
def okIo (io : List Nat) : Nat → List D → Bool
  | _, [] => true
  | k, d :: ds => (io.contains k || noOwn d) && okIo io (k + 1) ds
def putKs : List (Option Nat) → List D → Env → Option Env
  | [], [], env => some env
  | some j :: ks, a :: as, env => putKs ks as (env.set j (some a))
  | none :: ks, _ :: as, env => putKs ks as env
  | _, _, _ => none
def posK : Nat → List (Option Nat) → List Nat
  | _, [] => []
  | n, some j :: ks => j :: posK n ks
  | n, none :: ks => n :: posK (n + 1) ks
theorem okIo_at {io : List Nat} : ∀ {ds : List D} {k : Nat}, okIo io k ds = true → ∀ (i : Nat) d, ds[i]? = some d → k + i ∉ io → noOwn d = true
  | [], k, _, i, d, h, _ => by simp at h
  | x :: xs, k, h, 0, d, hd, hn => by
    rw [okIo, Bool.and_eq_true, Bool.or_eq_true] at h
    have : x = d := by simpa using hd
    subst this
    rcases h.1 with z | z
    · exact absurd (by simpa using z) hn
    · exact z
  | x :: xs, k, h, i + 1, d, hd, hn => by
    rw [okIo, Bool.and_eq_true] at h
    exact okIo_at h.2 i d (by simpa using hd) (by rwa [show k + 1 + i = k + (i + 1) by omega])
theorem posK_mem {ks : List (Option Nat)} : ∀ {n p : Nat}, p ∈ posK n ks → some p ∈ ks ∨ n ≤ p := by
  induction ks with
  | nil => intro n p h; cases h
  | cons k ks ih =>
    intro n p h
    cases k with
    | none =>
      rcases List.mem_cons.mp h with h | h
      · exact .inr (by omega)
      · exact (ih h).imp (List.mem_cons_of_mem _) (by omega)
    | some j =>
      rcases List.mem_cons.mp h with h | h
      · exact .inl (by rw [h]; exact List.mem_cons_self)
      · exact (ih h).imp_left (List.mem_cons_of_mem _)
theorem posK_nodup {ks : List (Option Nat)} : ∀ {n : Nat}, (ks.filterMap id).Nodup → (∀ j, some j ∈ ks → j < n) → (posK n ks).Nodup := by
  induction ks with
  | nil => intro n _ _; exact List.nodup_nil
  | cons k ks ih =>
    intro n h hlt
    cases k with
    | none =>
      refine List.nodup_cons.mpr ⟨fun m => ?_, ih h fun j m => by have := hlt j (List.mem_cons_of_mem _ m); omega⟩
      rcases posK_mem m with z | z
      · have := hlt n (List.mem_cons_of_mem _ z); omega
      · omega
    | some j =>
      have h : (j :: ks.filterMap id).Nodup := h
      refine List.nodup_cons.mpr ⟨fun m => ?_, ih (List.nodup_cons.mp h).2 fun i m => hlt i (List.mem_cons_of_mem _ m)⟩
      rcases posK_mem m with z | z
      · exact (List.nodup_cons.mp h).1 (List.mem_filterMap.mpr ⟨_, z, rfl⟩)
      · have := hlt j List.mem_cons_self; omega
theorem posK_len : ∀ {ks : List (Option Nat)} {n : Nat}, (posK n ks).length = ks.length
  | [], _ => rfl
  | some j :: ks, n => by rw [posK, List.length_cons, List.length_cons, posK_len]
  | none :: ks, n => by rw [posK, List.length_cons, List.length_cons, posK_len]
/-- the arguments stand at their places -/
theorem getK_pos {σ : L2.St} {env : Env} (hl : env.length = σ.length) : ∀ {ks : List (Option Nat)} {us ws prev : List V} {ts pre As : List D}, KdOk σ ks us ws → ts.length = ws.length → prev.length = pre.length → getK ks env ts = some As →
    As.length = ks.length ∧ us.length = ks.length ∧ ∀ (i p : Nat), (posK (σ.length + prev.length) ks)[i]? = some p → ∃ d v, As[i]? = some d ∧ us[i]? = some v ∧ (env ++ (pre ++ ts).map some)[p]? = some (some d) ∧ (σ ++ (prev ++ ws).map some)[p]? = some (some v)
  | [], us, ws, prev, ts, pre, As, hk, ht, hp, hg => by
    cases hk
    have hg : some [] = some As := hg
    cases hg
    exact ⟨rfl, rfl, fun i p h => by simp [posK] at h⟩
  | some j :: ks, us, ws, prev, ts, pre, As, hk, ht, hp, hg => by
    cases hk with
    | io h r =>
      rename_i v us'
      unfold getK at hg
      split at hg
      · rename_i d hd
        cases e : getK ks env ts with
        | none => rw [e] at hg; cases hg
        | some As' =>
          rw [e] at hg; cases hg
          obtain ⟨h1, h2, h3⟩ := getK_pos hl r ht hp e
          refine ⟨by simp [h1], by simp [h2], fun i p hip => ?_⟩
          cases i with
          | zero =>
            have : j = p := by simpa [posK] using hip
            subst this
            have hj : j < env.length := (List.getElem?_eq_some_iff.mp hd).1
            exact ⟨d, v, rfl, rfl, by rw [List.getElem?_append_left hj]; exact hd, by rw [List.getElem?_append_left (by omega)]; exact h⟩
          | succ i =>
            obtain ⟨d', v', g1, g2, g3, g4⟩ := h3 i p (by simpa [posK] using hip)
            exact ⟨d', v', by simpa using g1, by simpa using g2, g3, g4⟩
      · cases hg
  | none :: ks, us, ws, prev, [], pre, As, hk, ht, hp, hg => by cases hg
  | none :: ks, us, ws, prev, t :: ts, pre, As, hk, ht, hp, hg => by
    cases hk with
    | tmp r =>
      rename_i v us' ws'
      unfold getK at hg
      cases e : getK ks env ts with
      | none => rw [e] at hg; cases hg
      | some As' =>
        rw [e] at hg; cases hg
        obtain ⟨h1, h2, h3⟩ := getK_pos (prev := prev ++ [v]) (pre := pre ++ [t]) hl r (by simpa using ht) (by simp [hp]) e
        refine ⟨by simp [h1], by simp [h2], fun i p hip => ?_⟩
        cases i with
        | zero =>
          have : σ.length + prev.length = p := by simpa [posK] using hip
          subst this
          refine ⟨t, v, rfl, rfl, ?_, ?_⟩
          · rw [List.getElem?_append_right (by omega), List.map_append, List.getElem?_append_right (by simp; omega)]
            rw [List.length_map, show σ.length + prev.length - env.length - pre.length = 0 by omega]; rfl
          · rw [List.getElem?_append_right (by omega), List.map_append, List.getElem?_append_right (by simp)]
            rw [List.length_map, show σ.length + prev.length - σ.length - prev.length = 0 by omega]; rfl
        | succ i =>
          obtain ⟨d', v', g1, g2, g3, g4⟩ := h3 i p (by rw [posK] at hip; rw [List.length_append, List.length_singleton, ← Nat.add_assoc]; simpa using hip)
          refine ⟨d', v', by simpa using g1, by simpa using g2, ?_, ?_⟩
          · rw [List.append_cons]; exact g3
          · rw [List.append_cons]; exact g4
/-- and are put back there -/
theorem putKs_pos : ∀ {ks : List (Option Nat)} {As' pre ts : List D} {env env2 : Env} {n : Nat}, putKs ks As' env = some env2 → (ks.filterMap id).Nodup → (∀ j, some j ∈ ks → j < env.length) → n = env.length + pre.length → ts.length = (ks.filter (·.isNone)).length →
    As'.length = ks.length ∧ env2.length = env.length ∧ ∃ ts' : List D, ts'.length = ts.length ∧ (∀ p, p ∉ posK n ks → (env2 ++ (pre ++ ts').map some)[p]? = (env ++ (pre ++ ts).map some)[p]?) ∧
      ∀ (i p : Nat), (posK n ks)[i]? = some p → ∃ d, As'[i]? = some d ∧ (env2 ++ (pre ++ ts').map some)[p]? = some (some d)
  | [], [], pre, ts, env, env2, n, hp, _, _, hn, ht => by
    have hp : some env = some env2 := hp
    cases hp
    have : ts = [] := List.eq_nil_of_length_eq_zero ht
    subst this
    exact ⟨rfl, rfl, [], rfl, fun p _ => rfl, fun i p h => by simp [posK] at h⟩
  | some j :: ks, a :: as, pre, ts, env, env2, n, hp, hnd, hlt, hn, ht => by
    have hnd : (j :: ks.filterMap id).Nodup := hnd
    have hj := hlt j List.mem_cons_self
    obtain ⟨h1, h2, ts', h3, h4, h5⟩ := putKs_pos (ks := ks) (pre := pre) (ts := ts) (env := env.set j (some a)) (n := n) hp (List.nodup_cons.mp hnd).2 (fun i m => by rw [List.length_set]; exact hlt i (List.mem_cons_of_mem _ m)) (by rw [List.length_set]; exact hn) ht
    rw [List.length_set] at h2
    have jn : j ∉ posK n ks := fun m => by
      rcases posK_mem m with z | z
      · exact (List.nodup_cons.mp hnd).1 (List.mem_filterMap.mpr ⟨_, z, rfl⟩)
      · omega
    refine ⟨by simp [h1], h2, ts', h3, fun p hpn => ?_, fun i p hip => ?_⟩
    · have hpj : p ≠ j := fun z => hpn (by rw [z]; exact List.mem_cons_self)
      rw [h4 p fun m => hpn (List.mem_cons_of_mem _ m)]
      by_cases hpe : p < env.length
      · rw [List.getElem?_append_left (by rw [List.length_set]; exact hpe), List.getElem?_append_left hpe, List.getElem?_set_ne (Ne.symm hpj)]
      · rw [List.getElem?_append_right (by rw [List.length_set]; omega), List.getElem?_append_right (by omega), List.length_set]
    · cases i with
      | zero =>
        have : j = p := by simpa [posK] using hip
        subst this
        refine ⟨a, rfl, ?_⟩
        rw [h4 j jn, List.getElem?_append_left (by rw [List.length_set]; exact hj), List.getElem?_set_self hj]
      | succ i =>
        obtain ⟨d, g1, g2⟩ := h5 i p (by simpa [posK] using hip)
        exact ⟨d, by simpa using g1, g2⟩
  | none :: ks, a :: as, pre, [], env, env2, n, hp, hnd, hlt, hn, ht => by simp at ht
  | none :: ks, a :: as, pre, t :: ts, env, env2, n, hp, hnd, hlt, hn, ht => by
    obtain ⟨h1, h2, ts', h3, h4, h5⟩ := putKs_pos (ks := ks) (pre := pre ++ [a]) (ts := ts) (env := env) (n := n + 1) hp hnd (fun i m => hlt i (List.mem_cons_of_mem _ m)) (by simp; omega) (by simpa using ht)
    refine ⟨by simp [h1], h2, a :: ts', by simp [h3], fun p hpn => ?_, fun i p hip => ?_⟩
    · have hpj : p ≠ n := fun z => hpn (by rw [z]; exact List.mem_cons_self)
      have := h4 p fun m => hpn (List.mem_cons_of_mem _ m)
      rw [List.append_cons] 
      rw [this]
      by_cases hpe : p < n
      · have e : ∀ (x : D), (env ++ ((pre ++ [x]) ++ ts).map some)[p]? = (env ++ pre.map some)[p]? := fun x => by
          rw [List.map_append, List.map_append, List.append_assoc, ← List.append_assoc env, List.getElem?_append_left (by simp; omega)]
        rw [e a, ← e t, ← List.append_cons]
      · have e : ∀ (x : D), (env ++ ((pre ++ [x]) ++ ts).map some)[p]? = (ts.map some)[p - (n + 1)]? := fun x => by
          rw [List.map_append, ← List.append_assoc, List.getElem?_append_right (by simp; omega)]
          congr 1; simp; omega
        rw [e a, ← e t, ← List.append_cons]
    · cases i with
      | zero =>
        have : n = p := by simpa [posK] using hip
        subst this
        refine ⟨a, rfl, ?_⟩
        rw [List.append_cons, h4 n fun m => by
          rcases posK_mem m with z | z
          · have := hlt n (List.mem_cons_of_mem _ z); omega
          · omega]
        rw [List.map_append, List.map_append, List.append_assoc, ← List.append_assoc env, List.getElem?_append_right (by simp; omega)]
        rw [List.length_append, List.length_map, show n - (env.length + pre.length) = 0 by omega]; rfl
      | succ i =>
        obtain ⟨d, g1, g2⟩ := h5 i p (by simpa [posK] using hip)
        refine ⟨d, by simpa using g1, ?_⟩
        rw [List.append_cons]; exact g2
  | [], _ :: _, pre, ts, env, env2, n, hp, _, _, _, _ => by cases hp
  | some j :: ks, [], pre, ts, env, env2, n, hp, _, _, _, _ => by cases hp
  | none :: ks, [], pre, ts, env, env2, n, hp, _, _, _, _ => by cases hp
end VL
set_option maxHeartbeats 2000000
namespace VL
open PySem L2 PyProof.Rows
theorem KdOk.lt {σ : L2.St} {ks : List (Option Nat)} {us ws : List V} (h : KdOk σ ks us ws) : ∀ j, some j ∈ ks → j < σ.length := by
  induction h with
  | nil => intro j m; cases m
  | io h _ ih =>
    intro i m
    rcases List.mem_cons.mp m with e | m
    · cases e; exact (List.getElem?_eq_some_iff.mp h).1
    · exact ih i m
  | tmp _ ih =>
    intro i m
    rcases List.mem_cons.mp m with e | m
    · cases e
    · exact ih i m
theorem KdOk.tmps {σ : L2.St} {ks : List (Option Nat)} {us ws : List V} (h : KdOk σ ks us ws) : ws.length = (ks.filter (·.isNone)).length := by
  induction h with
  | nil => rfl
  | io h _ ih => simpa using ih
  | tmp _ ih => simpa using ih
theorem idxN_at : ∀ {ns : List Nat} {k : Nat}, k ∈ ns → ns[ns.idxOf k]? = some k
  | [], _, h => by cases h
  | n :: ns, k, h => by
    by_cases e : n = k
    · subst e; rw [List.idxOf_cons_self]; rfl
    · have h' : k ∈ ns := (List.mem_cons.mp h).resolve_left fun w => e w.symm
      have : (n :: ns).idxOf k = ns.idxOf k + 1 := by unfold List.idxOf; rw [List.findIdx_cons, show (n == k) = false from beq_false_of_ne e]; rfl
      rw [this]
      simpa using idxN_at h'
theorem idxN_inj {ns : List Nat} {i j : Nat} (hi : i ∈ ns) (hj : j ∈ ns) (h : ns.idxOf i = ns.idxOf j) : i = j := by
  have a := idxN_at hi
  have b := idxN_at hj
  rw [h, b] at a
  exact (Option.some.inj a).symm
section
variable {K : PySem.W.Frag} {cs : Cs} {W : WX} {en : En} {kinds : List (Option Nat)} {io : List Nat} {s : SpG} {σ : L2.St} {H : Hp} {vs : List V} {ds : List D} {env : Env} {Z : Addr → Prop} {Fs : Nat → List Addr}
theorem call_G (hl : env.length = σ.length) (hl2 : vs.length = ds.length) (hio : ∀ p ∈ en.io, p.1 < σ.length) {us ws : List V} {ts : List D} (hk : KdOk σ kinds us ws) (ht : ts.length = ws.length)
    (rl : Rel K cs en H Z (σ ++ (vs ++ ws).map some) (env ++ (ds ++ ts).map some) Fs) (hnd : (kinds.filterMap id).Nodup) {As : List D} (hg : getK kinds env ts = some As) (hok : okIo io 0 As = true) {Q : VK} {QD : Env → D → Prop} {QX : XC → Env → Prop}
    (hs : s As (fun r As' => ∃ env2, putKs kinds As' env = some env2 ∧ QD env2 r) (fun xc As' => ∃ env2, putKs kinds As' env = some env2 ∧ QX xc env2))
    (k : ∀ v H' Z' env' d Fs', env'.length = σ.length → Rel K cs en H' Z' (σ ++ (vs ++ [v]).map some) (env' ++ (ds ++ [d]).map some) Fs' → QD env' d → Q v H')
    (kx : ∀ xc env' H' Z' Fs' cls d, env'.length = σ.length → Rel K cs en H' Z' σ env' Fs' → IsX cs xc cls d H' → QX xc env' → W cls d σ H') : spOfG K cs io s us H Q (WE W σ) := by
  obtain ⟨lA, lu, hp⟩ := getK_pos (prev := vs) (pre := ds) hl hk ht hl2 hg
  obtain ⟨pos, hpos⟩ : ∃ pos, pos = posK (σ.length + vs.length) kinds := ⟨_, rfl⟩
  rw [← hpos] at hp
  have plen : pos.length = kinds.length := by rw [hpos]; exact posK_len
  have hlt := hk.lt
  have pnd : pos.Nodup := by rw [hpos]; exact posK_nodup hnd fun j m => by have := hlt j m; omega
  have pget : ∀ i, i < kinds.length → pos[i]? = some (pos.getD i 0) := fun i hi => by
    have : i < pos.length := by omega
    simp [this]
  obtain ⟨F, hF⟩ : ∃ F, F = (List.range As.length).flatMap fun i => Fs (pos.getD i 0) := ⟨_, rfl⟩
  have memF : ∀ a, a ∈ F ↔ ∃ j ∈ pos, a ∈ Fs j := fun a => by
    rw [hF, List.mem_flatMap]
    constructor
    · rintro ⟨i, hi, m⟩
      have hi := List.mem_range.mp hi
      exact ⟨_, List.mem_of_getElem? (pget i (by omega)), m⟩
    · rintro ⟨j, hj, m⟩
      obtain ⟨i, hi⟩ := List.mem_iff_getElem?.mp hj
      have hlt := (List.getElem?_eq_some_iff.mp hi).1
      refine ⟨i, List.mem_range.mpr (by omega), ?_⟩
      have := pget i (by omega)
      rw [hi] at this
      rw [← Option.some.inj this]; exact m
  have inj : ∀ i j, i < As.length → j < As.length → i ≠ j → pos.getD i 0 ≠ pos.getD j 0 := fun i j hi hj ne h => by
    have h1 := pget i (by omega)
    have h2 := pget j (by omega)
    rw [h] at h1
    exact ne ((List.getElem?_inj (by omega) pnd).mp (h1.trans h2.symm))
  refine ⟨rl.tb, Z, As, F, rl.za, ?_, ?_, fun a m => ?_, fun i d h hn => ?_, _, _, hs, ?_, ?_⟩
  · rw [hF]
    refine RL.of_parts (by omega) fun i d v h1 h2 => ?_
    have hi := (List.getElem?_eq_some_iff.mp h1).1
    obtain ⟨d', v', g1, g2, g3, g4⟩ := hp i _ (pget i (by omega))
    rw [h1] at g1; rw [h2] at g2
    cases g1; cases g2
    obtain ⟨w, w1, w2⟩ := rl.slot _ d g3
    rw [g4] at w1
    cases w1
    exact w2
  · rw [hF]
    exact fm_nodup List.nodup_range (fun i _ => rl.nd _) fun i hi j hj ne a m => rl.dj _ _ a (inj i j (List.mem_range.mp hi) (List.mem_range.mp hj) ne) m
  · obtain ⟨j, _, m⟩ := (memF a).mp m
    exact rl.dz j a m
  · exact okIo_at hok i d h (by simpa using hn)
  · -- the def comes back
    intro v H' Z' r As' Fr F' bk RL' Rr nd hF2 ⟨env2, hput, q⟩
    obtain ⟨p1, p2, ts', p3, p4, p5⟩ := putKs_pos (pre := ds) (ts := ts) (n := σ.length + vs.length) hput hnd (fun j m => by rw [hl]; exact hlt j m) (by omega) (by rw [ht]; exact hk.tmps)
    rw [← hpos] at p4 p5
    obtain ⟨nd1, nd2, nd3⟩ := List.nodup_append.mp nd
    obtain ⟨Fs2, hF', hR⟩ := RL.parts RL'
    rw [hF'] at nd1
    obtain ⟨m1, m2⟩ := nodup_fm List.nodup_range nd1
    have lA' : As'.length = kinds.length := p1
    have inF' : ∀ i a, i < kinds.length → a ∈ Fs2 i → a ∈ F' := fun i a hi m => by rw [hF']; exact List.mem_flatMap.mpr ⟨i, List.mem_range.mpr (by omega), m⟩
    have idx : ∀ j ∈ pos, pos.idxOf j < kinds.length ∧ pos[pos.idxOf j]? = some j := fun j hj => ⟨by have := (List.getElem?_eq_some_iff.mp (idxN_at hj)).1; omega, idxN_at hj⟩
    have rl2 := rl.iochs (H' := H') (Z' := Z') pos (env2 ++ (ds ++ ts').map some) (fun j => Fs2 (pos.idxOf j)) (by simp [p2, p3]) p4 (fun j hj => by
        obtain ⟨d, _, _, _, h, _⟩ := hp _ j (idx j hj).2
        exact ⟨d, h⟩) (fun j hj => by
        obtain ⟨d', g1, g2⟩ := p5 _ j (idx j hj).2
        obtain ⟨_, v', _, w2, _, w4⟩ := hp _ j (idx j hj).2
        exact ⟨d', v', g2, w4, hR _ d' v' g1 w2⟩) bk.up (fun a z => (bk.zn a z).imp_right fun w => w.imp_left (memF a).mp) bk.za (fun a o h n w => bk.kp a o h n fun m => by
        obtain ⟨j, hj, m⟩ := (memF a).mp m
        exact w j hj m) (fun a o h w => bk.kt a o h fun m => by
        obtain ⟨j, hj, m⟩ := (memF a).mp m
        exact w j hj m) bk.tb (fun j hj => m1 _ (List.mem_range.mpr (by have := (idx j hj).1; omega))) (fun i hi j hj ne a m => m2 _ (List.mem_range.mpr (by have := (idx i hi).1; omega)) _ (List.mem_range.mpr (by have := (idx j hj).1; omega)) (fun e => ne (idxN_inj hi hj e)) a m)
        fun j hj a m => by
          have := hF2 a (List.mem_append_left _ (inF' _ a (idx j hj).1 m))
          exact ⟨this.1, this.2.imp_left (memF a).mp⟩
    have e1 : ∀ (A B : List V), σ ++ (A ++ B).map some = (σ ++ A.map some) ++ B.map some := fun A B => by rw [List.map_append, List.append_assoc]
    have e2 : ∀ (A B : List D), env2 ++ (A ++ B).map some = (env2 ++ A.map some) ++ B.map some := fun A B => by rw [List.map_append, List.append_assoc]
    rw [e1, e2] at rl2
    have rl3 := rl2.trunc (by simp [p2, hl, hl2]) fun p m => by have := hio p m; simp; omega
    have rl4 := rl3.push (d := r) (v := v) (F := Fr) Rr nd2 fun a m => by
      have h1 := hF2 a (List.mem_append_right _ m)
      refine ⟨h1.1, ?_, fun j n => ?_⟩
      · rcases h1.2 with z | z
        · obtain ⟨j, hj, z⟩ := (memF a).mp z
          exact rl.own j a z
        · exact rl.free0 z
      · split at n
        · split at n
          · rename_i hj
            exact nd3 a (inF' _ a (idx j hj).1 n) a m rfl
          · rename_i hj
            rcases h1.2 with z | z
            · obtain ⟨l, hl', z⟩ := (memF a).mp z
              exact rl.dj l j a (fun w => hj (w ▸ hl')) z n
            · obtain ⟨o, w⟩ := rl.alloc n
              rw [z] at w; cases w
        · cases n
    rw [show (σ ++ vs.map some) ++ [some v] = σ ++ (vs ++ [v]).map some from (e1 vs [v]).symm, show (env2 ++ ds.map some) ++ [some r] = env2 ++ (ds ++ [r]).map some from (e2 ds [r]).symm] at rl4
    exact k v H' Z' env2 r _ (by omega) rl4 q
  · intro xc cls d H' Z' As' F' bk RL' nd1 hF2 hx ⟨env2, hput, q⟩
    obtain ⟨p1, p2, ts', p3, p4, p5⟩ := putKs_pos (pre := ds) (ts := ts) (n := σ.length + vs.length) hput hnd (fun j m => by rw [hl]; exact hlt j m) (by omega) (by rw [ht]; exact hk.tmps)
    rw [← hpos] at p4 p5
    obtain ⟨Fs2, hF', hR⟩ := RL.parts RL'
    rw [hF'] at nd1
    obtain ⟨m1, m2⟩ := nodup_fm List.nodup_range nd1
    have lA' : As'.length = kinds.length := p1
    have inF' : ∀ i a, i < kinds.length → a ∈ Fs2 i → a ∈ F' := fun i a hi m => by rw [hF']; exact List.mem_flatMap.mpr ⟨i, List.mem_range.mpr (by omega), m⟩
    have idx : ∀ j ∈ pos, pos.idxOf j < kinds.length ∧ pos[pos.idxOf j]? = some j := fun j hj => ⟨by have := (List.getElem?_eq_some_iff.mp (idxN_at hj)).1; omega, idxN_at hj⟩
    have rl2 := rl.iochs (H' := H') (Z' := Z') pos (env2 ++ (ds ++ ts').map some) (fun j => Fs2 (pos.idxOf j)) (by simp [p2, p3]) p4 (fun j hj => by
        obtain ⟨d, _, _, _, h, _⟩ := hp _ j (idx j hj).2
        exact ⟨d, h⟩) (fun j hj => by
        obtain ⟨d', g1, g2⟩ := p5 _ j (idx j hj).2
        obtain ⟨_, v', _, w2, _, w4⟩ := hp _ j (idx j hj).2
        exact ⟨d', v', g2, w4, hR _ d' v' g1 w2⟩) bk.up (fun a z => (bk.zn a z).imp_right fun w => w.imp_left (memF a).mp) bk.za (fun a o h n w => bk.kp a o h n fun m => by
        obtain ⟨j, hj, m⟩ := (memF a).mp m
        exact w j hj m) (fun a o h w => bk.kt a o h fun m => by
        obtain ⟨j, hj, m⟩ := (memF a).mp m
        exact w j hj m) bk.tb (fun j hj => m1 _ (List.mem_range.mpr (by have := (idx j hj).1; omega))) (fun i hi j hj ne a m => m2 _ (List.mem_range.mpr (by have := (idx i hi).1; omega)) _ (List.mem_range.mpr (by have := (idx j hj).1; omega)) (fun e => ne (idxN_inj hi hj e)) a m)
        fun j hj a m => by
          have := hF2 a (inF' _ a (idx j hj).1 m)
          exact ⟨this.1, this.2.imp_left (memF a).mp⟩
    have rl3 := rl2.trunc (by omega) hio
    exact kx xc env2 H' Z' _ cls d (by omega) rl3 hx q
end
end VL
set_option maxHeartbeats 2000000
namespace VL
open PySem L2 PyProof.Rows
/-! ### defs and methods that are known -/
abbrev W0 : WX := fun _ _ _ _ => False
structure KnG (P : Program) (w : World) (K : PySem.W.Frag) (mg : Str → Option Value) (base : Heap) (cs : Cs) (x : Str) (k : Nat) (ps : List Str) (io : List Nat) (s : SpG) : Prop where
  ex : ∃ (f : Addr) (fd : FuncData), FnOk P w K mg base (L2.CX P w) k f fd ps (spOfG K cs io s) ∧ mg x = some (.ref f) ∧ PySem.W.keepIn K (.ref f) = true ∧ Binds K fd ps []
/-- the method m of the class c -/
structure KnV (P : Program) (w : World) (K : PySem.W.Frag) (mg : Str → Option Value) (base : Heap) (cs : Cs) (c m : Str) (k : Nat) (ps : List Str) (io : List Nat) (s : SpG) : Prop where
  ex : ∃ (C f : Addr) (fd : FuncData), (∀ ci ∈ cs, ci.name = c → ci.addr = C ∧ m ∉ ci.fields) ∧ Cls K C ∧ Meth K C m f ∧ FnOk P w K mg base (L2.CX P w) k f fd ps (spOfG K cs io s) ∧ Binds K fd ps []
/-- .. that writes nothing that stood -/
structure KnP (P : Program) (w : World) (K : PySem.W.Frag) (mg : Str → Option Value) (base : Heap) (cs : Cs) (c m : Str) (k : Nat) (ps : List Str) (s : SpD) : Prop where
  ex : ∃ (C f : Addr) (fd : FuncData), (∀ ci ∈ cs, ci.name = c → ci.addr = C ∧ m ∉ ci.fields) ∧ Cls K C ∧ Meth K C m f ∧ FnOk P w K mg base CX0 k f fd ps (spOf K cs s) ∧ Binds K fd ps []
/-- a class's own def, called by the class's name: C.m(..) -/
structure KnB (P : Program) (w : World) (K : PySem.W.Frag) (mg : Str → Option Value) (base : Heap) (cs : Cs) (c m : Str) (k : Nat) (ps : List Str) (io : List Nat) (s : SpG) : Prop where
  ex : ∃ (C f : Addr) (mc : Value) (fd : FuncData), mg c = some (.ref C) ∧ ClX.CRead K C mc ∧ ClX.CVal K C mc m (.ref f) (.ref f) ∧ PySem.W.keepIn K (.ref f) = true ∧ FnOk P w K mg base (L2.CX P w) k f fd ps (spOfG K cs io s) ∧ Binds K fd ps []
def noX (s : SpM) : SpG := fun ds Q _ => s ds Q
theorem toG {P : Program} {w : World} {K : PySem.W.Frag} {mg : Str → Option Value} {base : Heap} {cs : Cs} {k : Nat} {f : Addr} {fd : FuncData} {ps : List Str} {io : List Nat} {s : SpM} (F : FnOk P w K mg base CX0 k f fd ps (spOfM K cs io s)) : FnOk P w K mg base (L2.CX P w) k f fd ps (spOfG K cs io (noX s)) := by
  have im : ∀ vs H Q E, spOfG K cs io (noX s) vs H Q E → spOfM K cs io s vs H Q E := fun vs H Q E ⟨tb, Z, ds, F, h1, h2, h3, h4, h5, QD, QX, h6, h7, _⟩ =>
    ⟨tb, Z, ds, F, h1, h2, h3, h4, h5, QD, h6, fun v H' Z' r ds' Fr F' up zn za kp kt tb2 => h7 v H' Z' r ds' Fr F' ⟨up, zn, za, kp, kt, tb2⟩⟩
  refine ⟨fun vs H Q E h => F.len vs H Q E (im _ _ _ _ h), fun A outer s' H args us vs Q E hr he hb hv hs => codeAny_mono (F.run A outer s' H args us vs Q E hr he hb hv (im _ _ _ _ hs)) fun r s2 h => ?_⟩
  cases r with
  | error e => exact h.elim
  | ok fl => cases fl <;> exact h
section
variable {X : Cx} {CX : CXT} {k : Nat} {f C : Addr} {fd : FuncData} {ps : List Str} {sp : Sp} {E : L2.St → XK} {x m : Str} {p pos apos : Pos} {e o : Expr} {es : List Expr} {ta : TE} {t : TA}
end
section
variable {X : Cx} {cs : Cs} {W : WX} {a b : Expr} {es : List Expr} {kinds : List (Option Nat)} {io : List Nat} {s : SpG} {u : TXA} {k : Nat} {ps : List Str} {x m c : Str} {p pos apos : Pos}
def callE_ (kinds : List (Option Nat)) (io : List Nat) (s : SpG) (u : TXA) : TXE := fun env QD QX => u env (fun env1 ts => ∃ As, getK kinds env1 ts = some As ∧ okIo io 0 As = true ∧
  s As (fun r As' => ∃ env2, putKs kinds As' env1 = some env2 ∧ QD env2 r) (fun xc As' => ∃ env2, putKs kinds As' env1 = some env2 ∧ QX xc env2)) QX
theorem ve_call (h : KnG X.prog X.w X.K X.mg X.base cs x k ps io s) (hr : Room k X.A) (hg : Gl X x) (tk : Takes X W) (ha : VAs X cs W kinds (a :: es) u) (hnd : (kinds.filterMap id).Nodup := by decide) (hdb : (x == ("__debug__" : Str)) = false := by decide)
    (he : starEach (a :: es) X.env = (false, eval a X.env) :: starEach es X.env := by rfl) (hpl : (backTo pos (starEach es X.env)).any (·.1) = false := by rfl) : VE X cs W (.Call (.Name x p) (a :: es) [] pos) (callE_ kinds io s u) := by
  obtain ⟨f, fd, F, hm, hk, hb⟩ := h.ex
  exact ⟨fun en => pe_weak (pe_callS F hr hg hm hk hb (fun σ => passAt tk σ) (ha.run en) hdb he hpl) fun σ H Q ⟨vs, ds, env, Z, Fs, hl, hl2, hio, rl, QD, QX, q, k, kx⟩ =>
    ⟨vs, ds, env, Z, Fs, hl, hl2, hio, rl, _, _, q, fun us ws ts H1 Z1 env1 Fs1 a1 a2 a3 a4 ⟨As, g1, g2, g3⟩ => call_G a1 hl2 hio a2 a3 a4 hnd g1 g2 g3 k kx, kx⟩⟩
/-- o.m(..), o the slot j: by the class of what stands there -/
def methE_ (j : Nat) (cls : List Str) (kinds : List (Option Nat)) (io : List Nat) (spt : Str → SpG) (u : TXA) : TXE := fun env QD QX => ∃ mk c ns xs, env[j]? = some (some (.obj mk c ns xs)) ∧ c ∈ cls ∧
  u env (fun env1 ts => ∃ As, getK (some j :: kinds) env1 ts = some As ∧ okIo io 0 As = true ∧
    spt c As (fun r As' => ∃ env2, putKs (some j :: kinds) As' env1 = some env2 ∧ QD env2 r) (fun xc As' => ∃ env2, putKs (some j :: kinds) As' env1 = some env2 ∧ QX xc env2)) QX
end
end VL
set_option maxHeartbeats 2000000
namespace VL
open PySem L2 PyProof.Rows
/-! ### statements that may raise -/
def ExOk (K : PySem.W.Frag) (cs : Cs) (e : En) (W : WX) (E : EndsD) : Prop := ∀ xc cls d σ H Z env Fs, Rel K cs e H Z σ env Fs → IsX cs xc cls d H → E.ex xc env → W cls d σ H
def tSOfX (K : PySem.W.Frag) (cs : Cs) (W : WX) (e : En) (t : TSD) : TS := fun Dh σ H => ∃ env Z Fs E, Rel K cs e H Z σ env Fs ∧ t E env ∧ EndsOk K cs e E Dh ∧ ExOk K cs e W E
structure VSX (X : Cx) (cs : Cs) (W : WX) (L : List Nat) (st : Stmt) (t : TSD) : Prop where
  run : ∀ e : En, (∀ p ∈ e.io, p.1 ∈ L) → PS X st (tSOfX X.K cs W e t)
structure VSsX (X : Cx) (cs : Cs) (W : WX) (L : List Nat) (st : List Stmt) (t : TSD) : Prop where
  run : ∀ e : En, (∀ p ∈ e.io, p.1 ∈ L) → PSs X st (tSOfX X.K cs W e t)
section
variable {X : Cx} {cs : Cs} {W : WX} {L : List Nat} {a b c iter : Expr} {pos : Pos} {ta tb : TED} {st : Stmt} {sts body : List Stmt} {t u : TSD} {tx : TXE}
theorem ExOk.gs {K : PySem.W.Frag} {e : En} {E : EndsD} {gs : List (D × V)} (h : ExOk K cs e W E) : ExOk K cs { e with gs := gs ++ e.gs } W E := fun xc cls d σ H Z env Fs rl x q => h xc cls d σ H Z env Fs rl.lessgs x q
theorem vsx_of (h : VS X cs L st t) : VSX X cs W L st t := ⟨fun e hL => ps_weak (h.run e hL) fun D σ H ⟨env, Z, Fs, E, rl, q, ok, _⟩ => ⟨env, Z, Fs, E, rl, q, ok⟩⟩
theorem vssx_nil : VSsX X cs W L [] nx_ := ⟨fun e hL => pss_weak (vss_nil.run e hL) fun D σ H ⟨env, Z, Fs, E, rl, q, ok, _⟩ => ⟨env, Z, Fs, E, rl, q, ok⟩⟩
theorem vssx_cons (h1 : VSX X cs W L st t) (h2 : VSsX X cs W L sts u) : VSsX X cs W L (st :: sts) (sq_ t u) :=
  ⟨fun e hL => pss_weak (pss_cons (h1.run e hL) (h2.run e hL)) fun D σ H ⟨env, Z, Fs, E, rl, ⟨Rr, q1, q2⟩, ok, ox⟩ =>
    ⟨env, Z, Fs, { E with nx := Rr }, rl, q1, ⟨fun σ' H' Z' env' Fs' rl' h => ⟨env', Z', Fs', E, rl', q2 env' h, ok, ox⟩, ok.bk, ok.ct, ok.rt⟩, ox⟩⟩
theorem vssx_one (h1 : VSX X cs W L st t) : VSsX X cs W L [st] t := ⟨fun e hL => pss_one (h1.run e hL)⟩
theorem vsx_if {tc : TTD} {s1 s2 : List Stmt} (hc : VB X cs c tc) (ha : VSsX X cs W L s1 t) (hb : VSsX X cs W L s2 u) : VSX X cs W L (.If c s1 s2 pos) (ifs_ tc t u) :=
  ⟨fun e hL => ps_weak (ps_if hc.run (ha.run e hL) (hb.run e hL)) fun D σ H ⟨env, Z, Fs, E, rl, q, ok, ox⟩ => ⟨e, env, Z, Fs, rl, _, q, fun b H' Z' x z => by
    cases b with
    | true => rw [if_pos rfl]; exact ⟨env, Z', Fs, E, rl.ext x, z.1 rfl, ok, ox⟩
    | false => rw [if_neg Bool.false_ne_true]; exact ⟨env, Z', Fs, E, rl.ext x, z.2 rfl, ok, ox⟩⟩⟩
theorem vsx_frz (i : Nat) (h : VSX X cs W L st t) : VSX X cs W L st (frz_ i t) :=
  ⟨fun e hl => ps_weak (h.run e hl) fun D σ H ⟨env, Z, Fs, E, rl, ⟨d, hd, q⟩, ok, ox⟩ => by
    obtain ⟨Fs', rl'⟩ := rl.freeze0 hd
    exact ⟨_, _, Fs', E, rl', q, ok, ox⟩⟩
theorem vsx_for (i : Nat) {x : Str} {p : Pos} {ti : TAD} (hp : PassesOwn (model X.prog X.w) X.A X.env X.xe) (hc : X.calm = true) (hi : VI X cs (.Name x p) iter ti) (hN : X.N.Nodup) (hb : VSsX X cs W L body t) (hix : X.N[i]? = some x := by rfl) (hx : Loc X.env.scope x := by first | exact .inl rfl | exact .inr rfl) (hL : i ∉ L := by decide)
    (hf : X.fn x = true ∨ X.env.scope.names.lookup x = some .local := by first | exact .inl rfl | exact .inr rfl | assumption) (hs : ∀ y, foldedSetIterable iter X.env y = pure y := by intro _; rfl) : VSX X cs W L (.For (.Name x p) iter body [] pos) (for_ i ti t) := by
  refine ⟨fun e hl => ⟨fun pins s σ H Dh I h => ?_⟩⟩
  obtain ⟨env, Z, Fs, E, rl, q, ok, ox⟩ := h
  have all : PS X (.For (.Name x p) iter body [] pos) (tFor (tOfI X.K cs ti) (gName i) (fun D' σ' H' => ∃ gs, tSOfX X.K cs W { e with gs := gs ++ e.gs } t D' σ' H')) :=
    ps_for hp hc hi.run (pg_name hN hix hx hf) ⟨fun pins s σ H Dh I ⟨gs, h⟩ => (hb.run { e with gs := gs ++ e.gs } hl).run pins s σ H Dh I h⟩ hs
  refine all.run pins s σ H Dh I ⟨e, env, Z, Fs, rl, _, q, fun J H1 Z1 srcs ds x1 hsrc ⟨G, Y, hw, hG, hY⟩ ⟨Pv, p0, turn, fin⟩ => ?_⟩
  refine for_it (g := gName i) (tb := fun D' σ' H' => ∃ gs, tSOfX X.K cs W { e with gs := gs ++ e.gs } t D' σ' H') hw (fun k σ' H' => ∃ env' Z' Fs', Rel X.K cs { e with gs := srcs ++ e.gs } H' Z' σ' env' Fs' ∧ Pv k env') ⟨env, Z1, Fs, (rl.ext x1).withgs hsrc, p0⟩ (fun k σ' H' _ ⟨env', Z', Fs', r, _⟩ => hG H' Z' fun q m => r.gs q (List.mem_append_left _ m)) ?_ fun σ' H' ⟨env', Z', Fs', r, h⟩ => ok.nx σ' H' Z' env' Fs' r.lessgs (fin env' h)
  rintro k y σ' H' H2 hk ⟨env', Z', Fs', r, pv⟩ hy
  obtain ⟨x2, d, hd, rd⟩ := hY k H' Z' y H2 hk (fun q m => r.gs q (List.mem_append_left _ m)) hy
  obtain ⟨Fs2, r2⟩ := (r.ext x2).sets (i := i) rd List.nodup_nil (fun a m => by cases m) (fun q m w => hL (w ▸ hl q m))
  refine ⟨srcs, env'.set i (some d), Z', Fs2, _, r2, turn k d env' hd pv, ⟨fun σ3 H3 Z3 env3 Fs3 r3 h => ⟨env3, Z3, Fs3, r3, h⟩, fun σ3 H3 Z3 env3 Fs3 r3 h => ok.nx σ3 H3 Z3 env3 Fs3 r3.lessgs h,
    fun σ3 H3 Z3 env3 Fs3 r3 h => ⟨env3, Z3, Fs3, r3, h⟩, fun v σ3 H3 Z3 env3 Fs3 r F r3 rr nd hF h => ok.rt v σ3 H3 Z3 env3 Fs3 r F r3.lessgs rr nd hF h⟩, fun xc cls d σ3 H3 Z3 env3 Fs3 r3 => ox xc cls d σ3 H3 Z3 env3 Fs3 r3.lessgs⟩
/-! ### expressions that change slots, in statements -/
theorem io_lt {K : PySem.W.Frag} {e : En} {H : Hp} {Z : Addr → Prop} {σ : L2.St} {env : Env} {Fs : Nat → List Addr} (rl : Rel K cs e H Z σ env Fs) : ∀ p ∈ e.io, p.1 < σ.length := fun p m => (List.getElem?_eq_some_iff.mp (rl.io p m)).1
/-- an expression's end: the value is on top -/
theorem ve_end {K : PySem.W.Frag} {e : En} {H : Hp} {Z : Addr → Prop} {σ : L2.St} {env : Env} {Fs : Nat → List Addr} {QD : Env → D → Prop} {QX : XC → Env → Prop} {Q : VK} (rl : Rel K cs e H Z σ env Fs) (q : tx env QD QX)
    (k : ∀ v H' Z' env' d F Fs', Rel K cs e H' Z' σ env' Fs' → R K cs H' Z' d v F → F.Nodup → (∀ a ∈ F, ¬ Z' a ∧ (e.W a ∨ e.H0 a = none) ∧ ∀ j, a ∉ Fs' j) → QD env' d → Q v H')
    (kx : ∀ xc env' H' Z' Fs' cls d, Rel K cs e H' Z' σ env' Fs' → IsX cs xc cls d H' → QX xc env' → W cls d σ H') : tOfE K cs W e tx σ H Q := by
  refine ⟨[], [], env, Z, Fs, rl.len.symm, rfl, io_lt rl, by simpa using rl, QD, QX, q, fun v H' Z' env' d Fs' hl r z => ?_, fun xc env' H' Z' Fs' cls d hl r x z => kx xc env' H' Z' Fs' cls d r x z⟩
  have r : Rel K cs e H' Z' (σ ++ [some v]) (env' ++ [some d]) Fs' := r
  obtain ⟨F, h1, h2, h3, h4⟩ := r.pop hl (io_lt rl)
  exact k v H' Z' env' d F _ h4 h1 h2 h3 z
def setx_ (i : Nat) (tx : TXE) : TSD := fun E env => tx env (fun env1 d => E.nx (env1.set i (some d))) E.ex
theorem vsx_set (i : Nat) {x : Str} {pos' : Pos} (ha : VE X cs W a tx) (hN : X.N.Nodup) (hi : X.N[i]? = some x := by rfl) (hx : Loc X.env.scope x := by first | exact .inl rfl | exact .inr rfl) (hL : i ∉ L := by decide) (hs : swapsWith a (some (.Name x pos')) pos.line X.env = pure false := by rfl)
    (hf : X.fn x = true ∨ X.env.scope.names.lookup x = some .local := by first | exact .inl rfl | exact .inr rfl | assumption) : VSX X cs W L (.Assign [.Name x pos'] a pos) (setx_ i tx) :=
  ⟨fun e hl => ps_weak (ps_set hN hi hx (ha.run e) hs hf) fun D σ H ⟨env, Z, Fs, E, rl, q, ok, ox⟩ => ve_end rl q (fun v H' Z' env' d F Fs' r rv nd hF z => by
    obtain ⟨Fs2, r2⟩ := r.sets (i := i) rv nd (fun a m => ⟨(hF a m).1, (hF a m).2.1, fun j _ => (hF a m).2.2 j⟩) fun p m w => hL (w ▸ hl p m)
    exact ok.nx _ H' Z' _ Fs2 r2 z) fun xc env' H' Z' Fs' cls d r x z => ox xc cls d σ H' Z' env' Fs' r x z⟩
def retx_ (tx : TXE) : TSD := fun E env => tx env (fun env1 d => E.rt d env1) E.ex
theorem vsx_ret (ha : VE X cs W a tx) : VSX X cs W L (.Return (some a) pos) (retx_ tx) :=
  ⟨fun e hl => ps_weak (ps_ret (ha.run e)) fun D σ H ⟨env, Z, Fs, E, rl, q, ok, ox⟩ => ve_end rl q (fun v H' Z' env' d F Fs' r rv nd hF z => ok.rt v σ H' Z' env' Fs' d F r rv nd hF z) fun xc env' H' Z' Fs' cls d r x z => ox xc cls d σ H' Z' env' Fs' r x z⟩
def exx_ (tx : TXE) : TSD := fun E env => tx env (fun env1 _ => E.nx env1) E.ex
theorem vsx_expr (ha : VE X cs W a tx) (hs : swapsWith a none pos.line X.env = pure false := by rfl) : VSX X cs W L (.Expr a pos) (exx_ tx) :=
  ⟨fun e hl => ps_weak (ps_expr (ha.run e) hs) fun D σ H ⟨env, Z, Fs, E, rl, q, ok, ox⟩ => ve_end rl q (fun v H' Z' env' d F Fs' r rv nd hF z => ok.nx σ H' Z' env' Fs' r z) fun xc env' H' Z' Fs' cls d r x z => ox xc cls d σ H' Z' env' Fs' r x z⟩
end
end VL
set_option maxHeartbeats 2000000
namespace VL
open PySem L2 PyProof.Rows
section
variable {X : Cx} {cs : Cs} {L : List Nat} {a b : Expr} {es : List Expr} {pos apos : Pos} {ta : TED} {u : TAD} {st : Stmt} {t : TSD} {tx : TXE} {m : Str}
/-! ### in defs that nothing leaves -/
def nox_ (t : TSD) : TSD := fun E env => t { E with ex := fun _ _ => False } env
theorem vs_ofX (h : VSX X cs W0 L st t) : VS X cs L st (nox_ t) :=
  ⟨fun e hL => ps_weak (h.run e hL) fun D σ H ⟨env, Z, Fs, E, rl, q, ok⟩ => ⟨env, Z, Fs, { E with ex := fun _ _ => False }, rl, q, ⟨ok.nx, ok.bk, ok.ct, ok.rt⟩, fun _ _ _ _ _ _ _ _ _ _ z => z⟩⟩
def sete_ (i : Nat) (tx : TXE) : TSD := fun E env => tx env (fun env1 d => E.nx (env1.set i (some d))) fun _ _ => False
def rete_ (tx : TXE) : TSD := fun E env => tx env (fun env1 d => E.rt d env1) fun _ _ => False
def exe_ (tx : TXE) : TSD := fun E env => tx env (fun env1 _ => E.nx env1) fun _ _ => False
theorem vs_rete (ha : VE X cs W0 a tx) : VS X cs L (.Return (some a) pos) (rete_ tx) := vs_ofX (vsx_ret ha)
theorem vs_exe (ha : VE X cs W0 a tx) (hs : swapsWith a none pos.line X.env = pure false := by rfl) : VS X cs L (.Expr a pos) (exe_ tx) := vs_ofX (vsx_expr ha hs)
/-! ### methods that write nothing -/
def mthD_ (j : Nat) (cls : List Str) (spt : Str → SpD) (u : TAD) : TED := fun env Q => ∃ mk c ns xs, env[j]? = some (some (.obj mk c ns xs)) ∧ c ∈ cls ∧ u env fun ds => spt c (frzL (.obj mk c ns xs :: ds)) fun r => (alo r = true ∨ noOwnL (.obj mk c ns xs :: ds) = true) ∧ Q r
variable {k : Nat} {ps : List Str}
/-! ### isinstance against a class of the text: where the answer is yes -/
structure KnI (K : PySem.W.Frag) (mg : Str → Option Value) (cs : Cs) (c x : Str) : Prop where
  ex : ∃ C, mg x = some (.ref C) ∧ ∀ ci ∈ cs, ci.name = c → Cls K ci.addr ∧ PySem.W.findIn K (.ref ci.addr) "__class__" = some (some (.builtin "object.__class__")) ∧ PySem.W.specialIn K (.builtin "object.__class__") "__get__" = some (some (.builtin "getset_descriptor.__get__")) ∧
    PySem.W.takesIn K (.builtin "object.__class__") = some true ∧ PySem.W.mroIn K ci.addr (.type "object") = some true ∧ PySem.W.kitOne K (.ref ci.addr) (.ref C) = some true
def isc_ (cls : List Str) (ta : TED) : TED := fun env Q => ta env fun d => (∃ mk c ns xs, d = .obj mk c ns xs ∧ c ∈ cls) ∧ Q (.bl true)
end
end VL
set_option maxHeartbeats 2000000
namespace VL
open PySem L2 PyProof.Rows
/-! ### larger expressions with parts that change slots -/
section
variable {K : PySem.W.Frag} {cs : Cs} {W : WX} {en : En} {σ : L2.St} {H : Hp} {vs ws : List V} {ds ts : List D} {env : Env} {Z : Addr → Prop} {Fs : Nat → List Addr} {Q : VK} {QD : Env → D → Prop}
theorem stk_split (rl : Rel K cs en H Z (σ ++ (vs ++ ws).map some) (env ++ (ds ++ ts).map some) Fs) : Rel K cs en H Z ((σ ++ vs.map some) ++ ws.map some) ((env ++ ds.map some) ++ ts.map some) Fs := by
  rw [List.map_append, List.map_append, ← List.append_assoc, ← List.append_assoc] at rl; exact rl
theorem stk_join {v : V} {d : D} (rl : Rel K cs en H Z ((σ ++ vs.map some) ++ [some v]) ((env ++ ds.map some) ++ [some d]) Fs) : Rel K cs en H Z (σ ++ (vs ++ [v]).map some) (env ++ (ds ++ [d]).map some) Fs := by
  rw [List.map_append, List.map_append, ← List.append_assoc, ← List.append_assoc]; exact rl
/-- what is on top goes -/
theorem stk_drop (hl : env.length = σ.length) (hl2 : vs.length = ds.length) (hio : ∀ p ∈ en.io, p.1 < σ.length) (rl : Rel K cs en H Z (σ ++ (vs ++ ws).map some) (env ++ (ds ++ ts).map some) Fs) : ∃ Fs', Rel K cs en H Z (σ ++ vs.map some) (env ++ ds.map some) Fs' ∧ ∀ j a, a ∈ Fs' j → a ∈ Fs j ∧ j < σ.length + vs.length := by
  refine ⟨_, (stk_split rl).trunc (by simp [hl, hl2]) (fun p m => by have := hio p m; simp; omega), fun j a m => ?_⟩
  split at m
  · rename_i h; exact ⟨m, by simpa using h⟩
  · cases m
theorem stk_R (hl : env.length = σ.length) (hl2 : vs.length = ds.length) (rl : Rel K cs en H Z (σ ++ (vs ++ ws).map some) (env ++ (ds ++ ts).map some) Fs) {i : Nat} {d : D} {v : V} (hd : ts[i]? = some d) (hv : ws[i]? = some v) : R K cs H Z d v (Fs (σ.length + vs.length + i)) := by
  have rl := stk_split rl
  have e1 : ((env ++ ds.map some) ++ ts.map some)[σ.length + vs.length + i]? = some (some d) := by
    rw [List.getElem?_append_right (by simp; omega)]
    have : σ.length + vs.length + i - (env ++ ds.map some).length = i := by simp [hl, hl2]
    rw [this, List.getElem?_map, hd]; rfl
  obtain ⟨w, h1, h2⟩ := rl.slot _ d e1
  rw [List.getElem?_append_right (by simp)] at h1
  have : σ.length + vs.length + i - (σ ++ vs.map some).length = i := by simp
  rw [this, List.getElem?_map, hv] at h1
  cases h1
  exact h2
theorem stk_RL (hl : env.length = σ.length) (hl2 : vs.length = ds.length) (hl3 : ts.length = ws.length) (rl : Rel K cs en H Z (σ ++ (vs ++ ws).map some) (env ++ (ds ++ ts).map some) Fs) :
    RL K cs H Z ts ws ((List.range ts.length).flatMap fun i => Fs (σ.length + vs.length + i)) ∧ ((List.range ts.length).flatMap fun i => Fs (σ.length + vs.length + i)).Nodup :=
  ⟨RL.of_parts hl3 fun i d v h1 h2 => stk_R hl hl2 rl h1 h2, fm_nodup List.nodup_range (fun i _ => rl.nd _) fun i _ j _ ne a m => rl.dj _ _ a (by omega) m⟩
/-- a fresh value in place of what is on top -/
theorem stk_fin (hl : env.length = σ.length) (hl2 : vs.length = ds.length) (hio : ∀ p ∈ en.io, p.1 < σ.length) (rl : Rel K cs en H Z (σ ++ (vs ++ ws).map some) (env ++ (ds ++ ts).map some) Fs)
    (k : ∀ v H' Z' env' d Fs', env'.length = σ.length → Rel K cs en H' Z' (σ ++ (vs ++ [v]).map some) (env' ++ (ds ++ [d]).map some) Fs' → QD env' d → Q v H') : Fin K cs H Z Q (QD env) := fun u H' Z' d F x r nd fre q => by
  obtain ⟨Fs', t, _⟩ := stk_drop hl hl2 hio rl
  have p := (t.ext x).push r nd fun a m => ⟨(fre a m).2, rl.free0 (fre a m).1, fun j n => by
    obtain ⟨o, w⟩ := t.alloc n
    rw [(fre a m).1] at w; cases w⟩
  exact k u H' Z' env d _ hl (stk_join p) q
end
section
variable {X : Cx} {cs : Cs} {W : WX} {L : List Nat} {a b c : Expr} {es : List Expr} {pos : Pos} {ta tb : TXE} {u : TXA} {kinds : List (Option Nat)}
def opx_ (f : D → D → (D → Prop) → Prop) (ta tb : TXE) : TXE := fun env QD QX => ta env (fun env1 d => tb env1 (fun env2 e => f d e (QD env2)) QX) QX
theorem opx_te {K : PySem.W.Frag} {en : En} {r : R2} {f : D → D → (D → Prop) → Prop} (hf : OD K cs r f) : ∀ σ H Q, tOfE K cs W en (opx_ f ta tb) σ H Q → tOp r (tOfE K cs W en ta) (tOfE K cs W en tb) σ H Q :=
  fun σ H Q ⟨vs, ds, env, Z, Fs, hl, hl2, hio, rl, QD, QX, q, k, kx⟩ => ⟨vs, ds, env, Z, Fs, hl, hl2, hio, rl, _, _, q, fun v H1 Z1 env1 d Fs1 hl1 rl1 q1 => ⟨vs ++ [v], ds ++ [d], env1, Z1, Fs1, hl1, by simp [hl2], hio, rl1, _, _, q1, fun w H2 Z2 env2 e Fs2 hl3 rl2 q2 => by
    rw [List.append_assoc, List.append_assoc] at rl2
    exact hf H2 Z2 Q (QD env2) d e v w _ _ rl2.za (stk_R (i := 0) hl3 hl2 rl2 rfl rfl) (stk_R (i := 1) hl3 hl2 rl2 rfl rfl) q2 (stk_fin hl3 hl2 hio rl2 k), kx⟩, kx⟩
theorem ve_cmp {op : CmpOp} {r : R2} {f : D → D → (D → Prop) → Prop} (ho : OpR X (compareOp op) r) (hf : OD X.K cs r f) (ha : VE X cs W a ta) (hb : VE X cs W b tb) (hm : behindInMarks op b = false) : VE X cs W (.Compare a [op] [b] pos) (opx_ f ta tb) :=
  ⟨fun en => pe_weak (pe_cmpR ho (ha.run en) (hb.run en) hm) (opx_te hf)⟩
/-- e[k]: what has nothing of its own -/
def ixx_ (ta tb : TXE) : TXE := fun env QD QX => ta env (fun env1 d => tb env1 (fun env2 e => dIx d e fun r => noOwn r = true ∧ QD env2 r) QX) QX
/-- e[lo:hi] -/
abbrev TXO := Env → (Env → Option Int → Prop) → (XC → Env → Prop) → Prop
def tOfO (K : PySem.W.Frag) (cs : Cs) (W : WX) (en : En) (t : TXO) : L2.TO := fun σ H Q => ∃ (vs : List V) (ds : List D) (env : Env) (Z : Addr → Prop) (Fs : Nat → List Addr), env.length = σ.length ∧ vs.length = ds.length ∧ (∀ p ∈ en.io, p.1 < σ.length) ∧ Rel K cs en H Z (σ ++ vs.map some) (env ++ ds.map some) Fs ∧ ∃ QD QX, t env QD QX ∧
  (∀ o H' Z' env' Fs', env'.length = σ.length → Rel K cs en H' Z' (σ ++ vs.map some) (env' ++ ds.map some) Fs' → QD env' o → Q o H') ∧
  (∀ xc env' H' Z' Fs' cls d, env'.length = σ.length → Rel K cs en H' Z' σ env' Fs' → IsX cs xc cls d H' → QX xc env' → W cls d σ H')
structure VOx (X : Cx) (cs : Cs) (W : WX) (e : Option Expr) (t : TXO) : Prop where
  run : ∀ en : En, PO X e (tOfO X.K cs W en t)
def nox0_ : TXO := fun env QD _ => QD env none
def pox_ (t : TXE) : TXO := fun env QD QX => t env (fun env1 d => match d with | .int i => QD env1 (some i) | _ => False) QX
def slx_ (ta : TXE) (tl th : TXO) : TXE := fun env QD QX => ta env (fun env1 d => tl env1 (fun env2 lo => th env2 (fun env3 hi => dSl d lo hi (QD env3)) QX) QX) QX
/-! ### lists of values of their own -/
def noneL : Nat → List (Option Nat)
  | 0 => []
  | n + 1 => none :: noneL n
theorem KdOk.nones {σ : L2.St} : ∀ {n : Nat} {us ws : List V}, KdOk σ (noneL n) us ws → us = ws
  | 0, _, _, .nil => rfl
  | n + 1, _, _, .tmp r => by rw [KdOk.nones r]
def callx_ (f : List D → (D → Prop) → Prop) (u : TXA) : TXE := fun env QD QX => u env (fun env1 ts => f ts (QD env1)) QX
variable {id T : String} {nm : Str} {p : Pos} {r : List V → Hp → VK → Prop} {f : List D → (D → Prop) → Prop} {n : Nat}
theorem dsp_end {K : PySem.W.Frag} {en : En} {σ : L2.St} {H : Hp} {vs ws : List V} {ds ts : List D} {env : Env} {Z : Addr → Prop} {Fs : Nat → List Addr} (hl : env.length = σ.length) (hl2 : vs.length = ds.length) (hio : ∀ p ∈ en.io, p.1 < σ.length)
    (rl : Rel K cs en H Z (σ ++ (vs ++ ws).map some) (env ++ (ds ++ ts).map some) Fs) (hl3 : ts.length = ws.length) {H' : Hp} (x : Ext cs H H' Z Z) {d : D} {v : V} {F : List Addr} (rd : R K cs H' Z d v F) (nd : F.Nodup) (hF : ∀ a ∈ F, H a = none ∨ a ∈ (List.range ts.length).flatMap fun i => Fs (σ.length + vs.length + i)) :
    ∃ Fs', Rel K cs en H' Z (σ ++ (vs ++ [v]).map some) (env ++ (ds ++ [d]).map some) Fs' := by
  obtain ⟨Fs', t, hFs⟩ := stk_drop hl hl2 hio rl
  refine ⟨_, stk_join ((t.ext x).push rd nd fun a m => ?_)⟩
  rcases hF a m with h | h
  · refine ⟨fun z => ?_, rl.free0 h, fun j n => ?_⟩
    · obtain ⟨o, w⟩ := rl.za a z; rw [h] at w; cases w
    · obtain ⟨o, w⟩ := t.alloc n; rw [h] at w; cases w
  · obtain ⟨i, hi, h⟩ := List.mem_flatMap.mp h
    refine ⟨rl.dz _ a h, rl.own _ a h, fun j n => ?_⟩
    obtain ⟨n1, n2⟩ := hFs j a n
    exact rl.dj _ _ a (by omega) h n1
def lstx_ (u : TXA) : TXE := fun env QD QX => u env (fun env1 ts => ts.length ≤ sizeLine ∧ QD env1 (.lst true ts)) QX
def tupx_ (u : TXA) : TXE := fun env QD QX => u env (fun env1 ts => ts.length ≤ sizeLine ∧ QD env1 (.tup ts)) QX
theorem ve_lst (h : VAs X cs W (noneL n) es u) : VE X cs W (.List es pos) (lstx_ u) :=
  ⟨fun en => pe_weak (pe_lst (h.run en)) fun σ H Q ⟨vs, ds, env, Z, Fs, hl, hl2, hio, rl, QD, QX, q, k, kx⟩ => ⟨vs, ds, env, Z, Fs, hl, hl2, hio, rl, _, _, q, fun us ws ts H1 Z1 env1 Fs1 hl1 hk ht rl1 ⟨hz, q1⟩ => by
    have := hk.nones
    subst this
    refine ⟨by rw [← ht]; exact hz, fun p hp => ?_⟩
    obtain ⟨r1, nd1⟩ := stk_RL hl1 hl2 ht rl1
    have np : p ∉ (List.range ts.length).flatMap fun i => Fs1 (σ.length + vs.length + i) := fun m => by
      obtain ⟨o, w⟩ := RL.alloc _ _ _ r1 p m
      rw [hp] at w; cases w
    obtain ⟨F2, r2⟩ := dsp_end hl1 hl2 hio rl1 ht (Ext.of (same_upd (o := .lst us) hp)) (fresh_lst hp r1) (List.nodup_cons.mpr ⟨np, nd1⟩) fun a m => by
        rcases List.mem_cons.mp m with rfl | m
        · exact .inl hp
        · exact .inr m
    exact k _ _ Z1 env1 _ F2 hl1 r2 q1, kx⟩⟩
/-! ### tests -/
abbrev TXB := Env → (Env → Bool → Prop) → (XC → Env → Prop) → Prop
def tOfBE (K : PySem.W.Frag) (cs : Cs) (W : WX) (en : En) (t : TXB) : TT := fun σ H Q => ∃ (vs : List V) (ds : List D) (env : Env) (Z : Addr → Prop) (Fs : Nat → List Addr), env.length = σ.length ∧ vs.length = ds.length ∧ (∀ p ∈ en.io, p.1 < σ.length) ∧ Rel K cs en H Z (σ ++ vs.map some) (env ++ ds.map some) Fs ∧ ∃ QD QX, t env QD QX ∧
  (∀ b H' Z' env' Fs', env'.length = σ.length → Rel K cs en H' Z' (σ ++ vs.map some) (env' ++ ds.map some) Fs' → QD env' b → Q b H') ∧
  (∀ xc env' H' Z' Fs' cls d, env'.length = σ.length → Rel K cs en H' Z' σ env' Fs' → IsX cs xc cls d H' → QX xc env' → W cls d σ H')
structure VBE (X : Cx) (cs : Cs) (W : WX) (e : Expr) (t : TXB) : Prop where
  run : ∀ en : En, PT X e (tOfBE X.K cs W en t)
structure VWE (X : Cx) (cs : Cs) (W : WX) (e : Expr) (t : TXB) : Prop where
  run : ∀ en : En, PW X e (tOfBE X.K cs W en t)
theorem VWE.vb {t : TXB} (h : VWE X cs W a t) : VBE X cs W a t := ⟨fun en => (h.run en).pt⟩
def pb_ (t : TTD) : TXB := fun env QD _ => t env fun b => QD env b
def blx_ (t : TXE) : TXB := fun env QD QX => t env (fun env1 d => match d with | .bl b => QD env1 b | _ => False) QX
def notx_ (t : TXB) : TXB := fun env QD QX => t env (fun env1 b => QD env1 (!b)) QX
def andx_ (t u : TXB) : TXB := fun env QD QX => t env (fun env1 b => (b = true → u env1 QD QX) ∧ (b = false → QD env1 false)) QX
def orx_ (t u : TXB) : TXB := fun env QD QX => t env (fun env1 b => (b = true → QD env1 true) ∧ (b = false → u env1 QD QX)) QX
variable {t t2 : TXB} {rest : List Expr}
variable {s1 s2 : List Stmt} {st1 st2 : TSD}
def ifx_ (c : TXB) (t u : TSD) : TSD := fun E env => c env (fun env1 b => (b = true → t E env1) ∧ (b = false → u E env1)) E.ex
def ife_ (c : TXB) (t u : TSD) : TSD := fun E env => c env (fun env1 b => (b = true → t E env1) ∧ (b = false → u E env1)) fun _ _ => False
end
end VL
set_option maxHeartbeats 2000000
namespace VL
open PySem PySem.Spec L2 PyProof.Rows
/-! ### slices of lists with a step -/
def ix3 (n : Nat) (lo hi st : Option Int) : List Nat := sliceRange (sliceBounds lo hi st n).1 (sliceBounds lo hi st n).2.1 (sliceBounds lo hi st n).2.2
def cut3 {α : Type} (xs : List α) (lo hi st : Option Int) : List α := (ix3 xs.length lo hi st).filterMap (xs[·]?)
theorem vals_fm {xs : List V} {us : List Value} (r : Vals xs us) : ∀ ix : List Nat, Vals (ix.filterMap (xs[·]?)) (ix.filterMap (us[·]?))
  | [] => .nil
  | i :: ix => by
    have l := r.length
    rw [List.filterMap_cons, List.filterMap_cons]
    cases e : xs[i]? with
    | none =>
      have hi : us.length ≤ i := by rw [← l]; exact List.getElem?_eq_none_iff.mp e
      rw [List.getElem?_eq_none hi]
      exact vals_fm r ix
    | some x =>
      obtain ⟨u, h1, h2⟩ := r.get e
      rw [h1]
      exact .cons h2 (vals_fm r ix)
theorem Vals.cut3 {xs : List V} {us : List Value} (r : Vals xs us) (lo hi st : Option Int) : Vals (cut3 xs lo hi st) (cut3 us lo hi st) := by
  unfold VL.cut3
  rw [r.length]
  exact vals_fm r _
theorem RL.cut3 {K : PySem.W.Frag} {cs : Cs} {H : Hp} {Z : Addr → Prop} {xs : List D} {vs : List V} (r : RL K cs H Z xs vs []) (lo hi st : Option Int) : RL K cs H Z (cut3 xs lo hi st) (cut3 vs lo hi st) [] := by
  have l := r.len
  unfold VL.cut3
  rw [l]
  generalize ix3 xs.length lo hi st = ix
  induction ix with
  | nil => exact ⟨rfl, rfl⟩
  | cons i ix ih =>
    rw [List.filterMap_cons, List.filterMap_cons]
    cases e : xs[i]? with
    | none =>
      have hi : vs.length ≤ i := by rw [l]; exact List.getElem?_eq_none_iff.mp e
      rw [List.getElem?_eq_none hi]
      exact ih
    | some x =>
      have hi : i < vs.length := by rw [l]; exact (List.getElem?_eq_some_iff.mp e).1
      rw [List.getElem?_eq_getElem hi]
      exact ⟨_, _, [], [], rfl, RL.get0 r e (List.getElem?_eq_getElem hi), ih, rfl⟩
section
variable {X : Cx} {cs : Cs} {a : Expr} {e : Expr} {te : TE} {lo hi : Option Expr} {st : Expr} {tl th tk : L2.TO} {pos p2 : Pos}
variable {ta : TED} {dl dh dk : TOD}
def dSl3 : D → Option Int → Option Int → Option Int → (D → Prop) → Prop
  | .lst _ xs, lo, hi, st, Q => noOwnL xs = true ∧ st ≠ some 0 ∧ Q (.lst true (cut3 xs lo hi st))
  | _, _, _, _, _ => False
def sl3_ (ta : TED) (tl th tk : TOD) : TED := fun env Q => ta env fun d => tl env fun lo => th env fun hi => tk env fun st => dSl3 d lo hi st Q
end
end VL
set_option maxHeartbeats 2000000
namespace VL
open PySem L2 PyProof.Rows
/-! ### comprehensions whose parts change slots -/
section
variable {K : PySem.W.Frag} {cs : Cs} {e : En} {H : Hp} {Z : Addr → Prop} {σ σ' : L2.St} {env : Env} {Fs : Nat → List Addr}
theorem Rel.re {io' : List (Nat × V)} {gs' : List (D × V)} (r : Rel K cs e H Z σ env Fs) (hs : ∀ (j : Nat) (d : D), env[j]? = some (some d) → σ'[j]? = σ[j]?) (hl : σ'.length = σ.length) (hio : ∀ p ∈ io', σ'[p.1]? = some (some p.2)) (hgs : ∀ p ∈ gs', R K cs H Z p.1 p.2 []) :
    Rel K cs { e with io := io', gs := gs' } H Z σ' env Fs :=
  ⟨fun i d h => let ⟨v, a, b⟩ := r.slot i d h; ⟨v, by rw [hs i d h]; exact a, b⟩, r.off, r.nd, r.dj, r.dz, r.za, r.own, r.fr, r.th, r.tb, r.z0, r.z1, hio, hgs, by rw [hl]; exact r.len⟩
end
def tOfIE (K : PySem.W.Frag) (cs : Cs) (W : WX) (en : En) (t : TXA) : TI := fun σ H Rr => ∃ (vs : List V) (ds : List D) (env : Env) (Z : Addr → Prop) (Fs : Nat → List Addr), env.length = σ.length ∧ vs.length = ds.length ∧ (∀ p ∈ en.io, p.1 < σ.length) ∧ Rel K cs en H Z (σ ++ vs.map some) (env ++ ds.map some) Fs ∧ ∃ QD QX, t env QD QX ∧
  (∀ J H' Z' env' Fs' srcs xs, env'.length = σ.length → Rel K cs en H' Z' (σ ++ vs.map some) (env' ++ ds.map some) Fs' → (∀ p ∈ srcs, R K cs H' Z' p.1 p.2 []) → ItOk K cs J srcs xs → QD env' xs → Rr J H') ∧
  (∀ xc env' H' Z' Fs' cls d, env'.length = σ.length → Rel K cs en H' Z' σ env' Fs' → IsX cs xc cls d H' → QX xc env' → W cls d σ H')
structure VIE (X : Cx) (cs : Cs) (W : WX) (tg iter : Expr) (t : TXA) : Prop where
  run : ∀ en : En, PI X tg iter (tOfIE X.K cs W en t)
section
variable {X : Cx} {cs : Cs} {W : WX} {L : List Nat} {a iter elt tg : Expr} {pos : Pos} {ti u : TXA} {te : TXE}
end
end VL
set_option maxHeartbeats 2000000
namespace VL
open PySem L2 PyProof.Rows
/-! ### d.get(k, x) -/
section
variable {X : Cx} {cs : Cs} {a b c : Expr} {pos p1 : Pos} {ta tb tc : TED}
end
end VL
set_option maxHeartbeats 2000000
namespace VL
open PySem L2 PyProof.Rows
/-! ### exceptions of the text -/
/-- an exception class of the text, raised with a text -/
structure KnX (K : PySem.W.Frag) (mg : Str → Option Value) (cs : Cs) (x : Str) : Prop where
  ex : ∃ C, mg x = some (.ref C) ∧ (x, C) ∈ cs.xc ∧ PySem.W.keepIn K (.ref C) = true ∧ PySem.W.excIn K C PySem.HandSPX.veTail "ValueError.__new__" = true ∧ PySem.W.subIn K (.ref C) (.type "BaseException") = some true ∧ PySem.W.typeIn K (.ref C) = some (.type "type")
def raise_ (x : Str) : TSD := fun E env => E.ex ⟨x, none⟩ env
section
variable {X : Cx} {cs : Cs} {W : WX} {L : List Nat} {x : Str} {pos p p2 pos2 : Pos} {j : Nat} {m : Str}
theorem vsx_raise (hc : X.calm = true) (h : KnX X.K X.mg cs x) (tk : L2.Takes X W) (hg : Gl X x) (hdb : (x == ("__debug__" : Str)) = false := by decide) : VSX X cs W L (.Raise (some (.Call (.Name x p) [.Constant (.str m) j p2] [] pos)) none pos2) (raise_ x) := by
  obtain ⟨C, h1, h2, h3, h4, h5, h6⟩ := h.ex
  exact ⟨fun e hl => ps_weak (ps_raise hc tk (pmk_own PySem.F.excBase_ValueError h4 h1 h3 (raises_own h5 h6) hg hdb)) fun D σ H ⟨env, Z, Fs, E, rl, q, ok, ox⟩ => ox ⟨x, none⟩ (.ref C) none σ H Z env Fs rl ⟨C, h2, rfl, (fun i e => by cases e), fun _ => rfl⟩ q⟩
end
/-! ### try: .. except x: .. -/
section
variable {X : Cx} {cs : Cs} {L : List Nat} {x n : Str} {c : Value} {body suite : List Stmt} {b₀ : Stmt} {np pos pos' : Pos} {t u : TSD}
def try_ (ca : Str → Bool) (t u : TSD) : TSD := fun E env => t { E with ex := fun xc env1 => ca xc.cls = true ∧ u E env1 } env
end
theorem fn_Gc {P : Program} {w : World} {K : PySem.W.Frag} {mg : Str → Option Value} {base : Heap} {cs : Cs} {qual : Str} {st : Stmt} {f : Addr} {fd : FuncData} {N ps : List Str} {k : Nat} {s : SpG} {t : TSD} (io : List Nat) (FK : ∀ sp : Sp, (∀ vs H Q E, sp vs H Q E → vs.length = ps.length) → (∀ (cdv : Value) (A : Around) (outer : List PySem.Env) (s : Shared) (H : Hp) (vs : List V) (Q : VK) (E : XK), Room k (A.deeper (envOfC qual (defScope st) s.heap.objs.size f cdv)) → sp vs H Q E →
      ∃ t, PSs (cxOf (L2.CX P w) P w K mg base N qual (defScope st) f cdv A outer s H E) (defBody st) t ∧ t { nx := fun _ H' => Q .non H', rt := Q } (start N vs) H) → FnOk P w K mg base (L2.CX P w) (k + 1) f fd ps sp)
    (len : ∀ ds QD QX, s ds QD QX → ds.length = ps.length)
    (body : ∀ (cdv : Value) (A : Around) (outer : List PySem.Env) (s : Shared) (H : Hp) (E : XK), Room k (A.deeper (envOfC qual (defScope st) s.heap.objs.size f cdv)) → L2.Takes (cxOf (L2.CX P w) P w K mg base N qual (defScope st) f cdv A outer s H E) (fun cls d _ H => E cls d H) →
      VSsX (cxOf (L2.CX P w) P w K mg base N qual (defScope st) f cdv A outer s H E) cs (fun cls d _ H => E cls d H) io (defBody st) t)
    (law : ∀ ds QD QX, s ds QD QX → t { nx := fun env => ∃ ds', backD io env 0 ds = some ds' ∧ QD .non ds', rt := fun d env => ∃ ds', backD io env 0 ds = some ds' ∧ QD d ds', ex := fun xc env => ∃ ds', backD io env 0 ds = some ds' ∧ QX xc ds' } (env0 N.length ds)) : FnOk P w K mg base (L2.CX P w) (k + 1) f fd ps (spOfG K cs io s) := by
  refine FK _ (fun vs H Q E ⟨_, Z, ds, F, za, r, _, _, _, QD, QX, h, _⟩ => ?_) fun cdv A outer sh H vs Q E hr ⟨tb, Z, ds, F, za, r, nd, nz, no, QD, QX, h, fin, finX⟩ => ?_
  · rw [r.len]; exact len ds QD QX h
  · obtain ⟨Fs, hF, hR⟩ := RL.parts r
    have lv := r.len
    have rngnd : (List.range ds.length).Nodup := List.nodup_range
    rw [hF] at nd
    obtain ⟨nd1, nd2⟩ := nodup_fm rngnd nd
    have inF : ∀ i a, i < ds.length → a ∈ Fs i → a ∈ F := fun i a hi m => by rw [hF]; exact List.mem_flatMap.mpr ⟨i, List.mem_range.mpr hi, m⟩
    let G : Nat → List Addr := fun i => if i < ds.length then Fs i else []
    have hG : ∀ i a, a ∈ G i → i < ds.length ∧ a ∈ Fs i := fun i a m => by
      have m : a ∈ (if i < ds.length then Fs i else []) := m
      split at m
      · exact ⟨by assumption, m⟩
      · cases m
    have vget : ∀ i d, ds[i]? = some d → ∃ v, vs[i]? = some v := fun i d hd => by
      have hi := (List.getElem?_eq_some_iff.mp hd).1
      exact ⟨vs[i]'(by omega), List.getElem?_eq_getElem _⟩
    have noF : ∀ i d v, ds[i]? = some d → vs[i]? = some v → i ∉ io → R K cs H Z d v [] := fun i d v h1 h2 h3 => by
      have := hR i d v h1 h2
      rw [R.noF d v _ (no i d h1 h3) this] at this
      exact this
    let ioL : List (Nat × V) := (List.range ds.length).filterMap fun i => if i ∈ io then vs[i]?.map fun v => (i, v) else none
    let gsL : List (D × V) := (List.range ds.length).filterMap fun i => if i ∈ io then none else match ds[i]?, vs[i]? with
      | some d, some v => some (d, v)
      | _, _ => none
    have hio : ∀ p ∈ ioL, p.1 ∈ io ∧ vs[p.1]? = some p.2 := fun p m => by
      obtain ⟨i, _, e⟩ := List.mem_filterMap.mp m
      split at e
      · cases q : vs[i]? with
        | none => rw [q] at e; cases e
        | some v => rw [q] at e; cases e; exact ⟨by assumption, q⟩
      · cases e
    have mio : ∀ i v, i ∈ io → vs[i]? = some v → (i, v) ∈ ioL := fun i v h1 h2 => by
      have hi := (List.getElem?_eq_some_iff.mp h2).1
      exact List.mem_filterMap.mpr ⟨i, List.mem_range.mpr (by omega), by rw [if_pos h1, h2]; rfl⟩
    have hgs : ∀ p ∈ gsL, ∃ i, i ∉ io ∧ ds[i]? = some p.1 ∧ vs[i]? = some p.2 := fun p m => by
      obtain ⟨i, _, e⟩ := List.mem_filterMap.mp m
      split at e
      · cases e
      · rename_i hn
        split at e
        · rename_i d v h1 h2
          cases e; exact ⟨i, hn, h1, h2⟩
        · cases e
    have mgs : ∀ i d v, i ∉ io → ds[i]? = some d → vs[i]? = some v → (d, v) ∈ gsL := fun i d v h1 h2 h3 => by
      have hi := (List.getElem?_eq_some_iff.mp h2).1
      exact List.mem_filterMap.mpr ⟨i, List.mem_range.mpr hi, by rw [if_neg h1, h2, h3]⟩
    have rl0 : Rel K cs ⟨H, Z, fun a => a ∈ F, ioL, gsL⟩ H Z (L2.start N vs) (env0 N.length ds) G := by
      refine ⟨fun i d hd => ?_, fun i hn => ?_, fun i => ?_, fun i j a ij m => ?_, fun i a m => ?_, za, fun i a m => ?_, fun a o h _ _ => h, fun a o h => .inr ⟨o, h⟩, tb, fun a z => z, fun a z => Or.inl z, fun p m => ?_, fun p m => ?_, ?_⟩
      · have hd := env0_get hd
        obtain ⟨v, hv⟩ := vget i d hd
        refine ⟨v, start_get hv, ?_⟩
        have hi := (List.getElem?_eq_some_iff.mp hd).1
        show R K cs H Z d v (if i < ds.length then Fs i else [])
        rw [if_pos hi]
        exact hR i d v hd hv
      · show (if i < ds.length then Fs i else []) = []
        by_cases hi : i < ds.length
        · refine absurd ?_ (hn ds[i])
          unfold env0
          rw [List.getElem?_append_left (by simpa using hi), List.getElem?_map, List.getElem?_eq_getElem hi]; rfl
        · rw [if_neg hi]
      · show (if i < ds.length then Fs i else []).Nodup
        split
        · exact nd1 i (List.mem_range.mpr (by assumption))
        · exact List.nodup_nil
      · obtain ⟨hi, m⟩ := hG i a m
        intro n
        obtain ⟨hj, n⟩ := hG j a n
        exact nd2 i (List.mem_range.mpr hi) j (List.mem_range.mpr hj) ij a m n
      · obtain ⟨hi, m⟩ := hG i a m
        exact nz a (inF i a hi m)
      · obtain ⟨hi, m⟩ := hG i a m
        exact .inl (inF i a hi m)
      · exact start_get (hio p m).2
      · obtain ⟨i, h1, h2, h3⟩ := hgs p m
        exact noF i p.1 p.2 h2 h3 h1
      · unfold L2.start env0
        simp [lv]
    have mid : ∀ (σ : L2.St) (H' : Hp) (Z' : Addr → Prop) (env : Env) (Fs' : Nat → List Addr), Rel K cs ⟨H, Z, fun a => a ∈ F, ioL, gsL⟩ H' Z' σ env Fs' → ∀ ds', backD io env 0 ds = some ds' → RL K cs H' Z' ds' vs ((List.range ds'.length).flatMap fun i => if i ∈ io then Fs' i else []) ∧ ((List.range ds'.length).flatMap fun i => if i ∈ io then Fs' i else []).Nodup ∧ ∀ a, a ∈ ((List.range ds'.length).flatMap fun i => if i ∈ io then Fs' i else []) → ∃ i, a ∈ Fs' i := by
      intro σ H' Z' env Fs' rl ds' hb
      obtain ⟨bl, bg⟩ := backD_get hb
      refine ⟨RL.of_parts (by rw [bl, lv]) fun i d v h1 h2 => ?_, fm_nodup List.nodup_range (fun i _ => ?_) (fun i _ j _ ij a m n => ?_), fun a m => ?_⟩
      · rcases bg i d h1 with ⟨h3, h4⟩ | ⟨h3, h4⟩
        · rw [Nat.zero_add] at h3 h4
          rw [if_pos h3]
          obtain ⟨u, g1, g2⟩ := rl.slot i d h4
          have := rl.io (i, v) (mio i v h3 h2)
          rw [g1] at this
          cases this
          exact g2
        · rw [Nat.zero_add] at h3
          rw [if_neg h3]
          exact rl.gs (d, v) (mgs i d v h3 h4 h2)
      · split
        · exact rl.nd i
        · exact List.nodup_nil
      · split at m
        · split at n
          · exact rl.dj i j a ij m n
          · cases n
        · cases m
      · obtain ⟨i, _, m⟩ := List.mem_flatMap.mp m
        split at m
        · exact ⟨i, m⟩
        · cases m
    have bk : ∀ (σ : L2.St) (H' : Hp) (Z' : Addr → Prop) (env : Env) (Fs' : Nat → List Addr), Rel K cs ⟨H, Z, fun a => a ∈ F, ioL, gsL⟩ H' Z' σ env Fs' → Bk K cs H H' Z Z' F := fun σ H' Z' env Fs' rl =>
      ⟨rl.z0, fun a z => (rl.z1 a z).imp_right fun w => w.elim .inr .inl, rl.za, fun a o h nt n => rl.fr a o h nt n, fun a o h n => (rl.th a o h).elim (fun w => absurd w n) id, rl.tb⟩
    have out : ∀ (v : V) (σ : L2.St) (H' : Hp) (Z' : Addr → Prop) (env : Env) (Fs' : Nat → List Addr) (d : D) (Fd : List Addr), Rel K cs ⟨H, Z, fun a => a ∈ F, ioL, gsL⟩ H' Z' σ env Fs' → R K cs H' Z' d v Fd → Fd.Nodup → (∀ a ∈ Fd, ¬ Z' a ∧ (a ∈ F ∨ H a = none) ∧ ∀ i, a ∉ Fs' i) →
        (∃ ds', backD io env 0 ds = some ds' ∧ QD d ds') → Q v H' := by
      intro v σ H' Z' env Fs' d Fd rl rd ndd hFd ⟨ds', hb, q⟩
      obtain ⟨RLd, m1, m2⟩ := mid σ H' Z' env Fs' rl ds' hb
      refine fin v H' Z' d ds' Fd _ (bk σ H' Z' env Fs' rl) RLd rd (List.nodup_append.mpr ⟨m1, ndd, fun a m b n e => ?_⟩) (fun a m => ?_) q
      · subst e
        obtain ⟨i, m⟩ := m2 a m
        exact (hFd a n).2.2 i m
      · rcases List.mem_append.mp m with m | m
        · obtain ⟨i, m⟩ := m2 a m
          exact ⟨rl.dz i a m, rl.own i a m⟩
        · exact ⟨(hFd a m).1, (hFd a m).2.1⟩
    refine ⟨_, (body cdv A outer sh H E hr (takes_of rfl rfl rfl rfl)).run ⟨H, Z, fun a => a ∈ F, ioL, gsL⟩ (fun p m => (hio p m).1), env0 N.length ds, Z, G, _, rl0, law ds QD QX h, ⟨fun σ H' Z' env Fs rl q => ?_, fun _ _ _ _ _ _ q => q, fun _ _ _ _ _ _ q => q, fun v σ H' Z' env Fs d Fd rl rd nd hF q => ?_⟩, fun xc cls d σ H' Z' env Fs rl isx ⟨ds', hb, q⟩ => ?_⟩
    · exact out .non σ H' Z' env Fs .non [] rl ⟨rfl, rfl⟩ List.nodup_nil (fun a m => by cases m) q
    · exact out v σ H' Z' env Fs d Fd rl rd nd hF q
    · obtain ⟨RLd, m1, m2⟩ := mid σ H' Z' env Fs rl ds' hb
      exact finX xc cls d H' Z' ds' _ (bk σ H' Z' env Fs rl) RLd m1 (fun a m => by
        obtain ⟨i, m⟩ := m2 a m
        exact ⟨rl.dz i a m, rl.own i a m⟩) isx q
theorem fn_G {P : Program} {w : World} {K : PySem.W.Frag} {mg : Str → Option Value} {base : Heap} {cs : Cs} {x qual : Str} {st : Stmt} {f : Addr} {fd : FuncData} {N ps : List Str} {k : Nat} {s : SpG} {t : TSD} (io : List Nat) (F : Fun K x qual st f fd) (S : FnScope N ps (defScope st))
    (len : ∀ ds QD QX, s ds QD QX → ds.length = ps.length)
    (body : ∀ (cdv : Value) (A : Around) (outer : List PySem.Env) (s : Shared) (H : Hp) (E : XK), Room k (A.deeper (envOfC qual (defScope st) s.heap.objs.size f cdv)) → L2.Takes (cxOf (L2.CX P w) P w K mg base N qual (defScope st) f cdv A outer s H E) (fun cls d _ H => E cls d H) →
      VSsX (cxOf (L2.CX P w) P w K mg base N qual (defScope st) f cdv A outer s H E) cs (fun cls d _ H => E cls d H) io (defBody st) t)
    (law : ∀ ds QD QX, s ds QD QX → t { nx := fun env => ∃ ds', backD io env 0 ds = some ds' ∧ QD .non ds', rt := fun d env => ∃ ds', backD io env 0 ds = some ds' ∧ QD d ds', ex := fun xc env => ∃ ds', backD io env 0 ds = some ds' ∧ QX xc ds' } (env0 N.length ds)) : FnOk P w K mg base (L2.CX P w) (k + 1) f fd ps (spOfG K cs io s) :=
  fn_Gc io (fun _ l b => F.okX S l b) len body law
/-! ### the last of a list, taken off; a list made longer by what changes slots -/
section
variable {X : Cx} {cs : Cs} {W : WX} {L : List Nat} {a b : Expr} {pos : Pos} {tx : TXE}
def popx_ (i : Nat) : TXE := fun env QD _ => ∃ xs y, env[i]? = some (some (.lst true (xs ++ [y]))) ∧ QD (env.set i (some (.lst true xs))) y
def appx_ (i : Nat) (tx : TXE) : TSD := fun E env => (∃ xs, env[i]? = some (some (.lst true xs))) ∧ tx env (fun env1 d => ∃ xs, env1[i]? = some (some (.lst true xs)) ∧ xs.length < sizeLine ∧ E.nx (env1.set i (some (.lst true (xs ++ [d]))))) E.ex
def appe_ (i : Nat) (tx : TXE) : TSD := fun E env => (∃ xs, env[i]? = some (some (.lst true xs))) ∧ tx env (fun env1 d => ∃ xs, env1[i]? = some (some (.lst true xs)) ∧ xs.length < sizeLine ∧ E.nx (env1.set i (some (.lst true (xs ++ [d]))))) fun _ _ => False
end
/-! ### try: .. except x as n: y = [isinstance(n, ..), ..] -/
section
variable {X : Cx} {cs : Cs} {L : List Nat} {a D : Addr} {oe : Obj} {pn : List (Addr × Obj)}
theorem RL.bools {K : PySem.W.Frag} {H : Hp} {Z : Addr → Prop} : ∀ bs : List Bool, RL K cs H Z (bs.map .bl) (bs.map .bl) []
  | [] => ⟨rfl, rfl⟩
  | b :: bs => ⟨.bl b, bs.map .bl, [], [], rfl, ⟨rfl, rfl⟩, RL.bools bs, rfl⟩
/-- an element: isinstance(n, class) or isinstance(n, classes) -/
def tIsE (cs : Cs) (i : Nat) (a : Addr) (b : Bool) : TE := fun σ H Q => σ[i]? = some (some (.ref a)) ∧ ∀ H', Sm cs H H' → Q (.bl b) H'
theorem pe_isE {i : Nat} {b : Bool} {n x : Str} {c : V} {cv : Value} {p q q2 pos : Pos} (C : ExcC X.K D) (hz : Zc (.ref D) none oe) (hf : ∃ vs, oe.data = .fields vs) (hg : Gl X "isinstance") (hm : X.mg "isinstance" = none)
    (hv : PE (X.suite a ((a, oe) :: pn)) (.Name n q) (tVar i)) (hc : PE (X.suite a ((a, oe) :: pn)) (.Name x q2) (tC c)) (hcv : ∀ u, RelV c u → u = cv) (hk : PySem.W.kitOne X.K (.ref D) cv = some b)
    (h1 : starEach [.Name x q2] X.env = (false, eval (.Name x q2) X.env) :: starEach [] X.env := by rfl) (h2 : starEach [.Name n q, .Name x q2] X.env = (false, eval (.Name n q) X.env) :: starEach [.Name x q2] X.env := by rfl) (h3 : (backTo pos (starEach [.Name x q2] X.env)).any (·.1) = false := by rfl) :
    PE (X.suite a ((a, oe) :: pn)) (.Call (.Name "isinstance" p) [.Name n q, .Name x q2] [] pos) (tIsE cs i a b) :=
  pe_weak (pe_callB (call_isE C hz hf) hg hm boot_isinstance (pa_cons hv (pa_cons hc pa_nil h1) h2) (by decide) (by decide) h2 h3) fun σ H Q ⟨hs, h⟩ => ⟨.ref a, hs, c, cv, b, rfl, hcv, hk, h H (Sm.refl H)⟩
/-- the elements -/
def tIsEs (cs : Cs) (i : Nat) (a : Addr) (bs : List Bool) : TA := fun σ H Q => σ[i]? = some (some (.ref a)) ∧ ∀ H', Sm cs H H' → Q (bs.map .bl) H'
theorem pa_isE0 {Y : Cx} {i : Nat} : PA Y [] (tIsEs cs i a []) := pa_weak pa_nil fun σ H Q ⟨_, h⟩ => h H (Sm.refl H)
theorem pa_isE {Y : Cx} {i : Nat} {b : Bool} {bs : List Bool} {e : Expr} {es : List Expr} (h : PE Y e (tIsE cs i a b)) (h2 : PA Y es (tIsEs cs i a bs)) (hs : starEach (e :: es) Y.env = (false, eval e Y.env) :: starEach es Y.env := by rfl) : PA Y (e :: es) (tIsEs cs i a (b :: bs)) :=
  pa_weak (pa_cons h h2 hs) fun σ H Q ⟨h1, h⟩ => ⟨h1, fun H1 s1 => ⟨h1, fun H2 s2 => h H2 (s1.trans s2)⟩⟩
/-- what a def's class of exceptions answers -/
structure KnE (K : PySem.W.Frag) (cs : Cs) (x : Str) (D : Addr) (c : Value) : Prop where
  one : ∀ n a, (n, a) ∈ cs.xc → n = x ∧ a = D
  ca : PySem.W.exmOne K (.ref D) c = some true
  ex : ExcC K D
def tryAs_ (i j : Nat) (bs : List Bool) (t : TSD) : TSD := fun E env => i ≠ j ∧ t { E with ex := fun xc env1 => xc.row = none ∧ i < env1.length ∧ E.nx (((env1.set i none).set j (some (.lst true (bs.map .bl)))).set i none) } env
end
/-! ### and, or as values -/
section
variable {X : Cx} {cs : Cs} {W : WX} {a b : Expr} {rest : List Expr} {pos : Pos} {ta tb : TXE}
def andvx_ (ta tb : TXE) : TXE := fun env QD QX => ta env (fun env1 d => match d with | .bl b => (b = true → tb env1 QD QX) ∧ (b = false → QD env1 (.bl false)) | _ => False) QX
def orvx_ (ta tb : TXE) : TXE := fun env QD QX => ta env (fun env1 d => match d with | .bl b => (b = true → QD env1 (.bl true)) ∧ (b = false → tb env1 QD QX) | _ => False) QX
end
/-- a clause's class that all exceptions of ours stand under -/
structure KnT (K : PySem.W.Frag) (mg : Str → Option Value) (cs : Cs) (x : Str) : Prop where
  ex : ∃ C, mg x = some (.ref C) ∧ ∀ n a, (n, a) ∈ cs.xc → PySem.W.exmOne K (.ref a) (.ref C) = some true
section
variable {X : Cx} {cs : Cs} {L : List Nat} {x n : Str} {body suite : List Stmt} {b₀ : Stmt} {np pos pos' : Pos} {t u : TSD}
end
/-! ### isinstance by the classes' lines -/
section
variable {K : PySem.W.Frag} {D C : Addr} {b : Bool} {t c : Value} {r : List Value}
theorem kit_own (h1 : PySem.W.isClsIn K C = true) (h2 : PySem.W.typeIn K (.ref C) = some (.type "type")) (h3 : PySem.W.subIn K (.ref D) (.ref C) = some b) (h4 : PySem.W.subIn K (.ref D) (.ref D) = some true) : PySem.W.kitOne K (.ref D) (.ref C) = some b := by
  unfold PySem.W.kitOne
  by_cases e : (Value.ref D == Value.ref C) = true
  · have e' := eq_of_beq e
    injection e' with e'
    subst e'
    rw [if_pos e]
    rw [h4] at h3; exact h3
  · rw [if_neg e]
    show (if ((PySem.W.clsIn K C).isSome && PySem.W.typeIn K (.ref C) == some (.type "type")) = true then PySem.W.subIn K (.ref D) (.ref C) else none) = some b
    rw [if_pos (by rw [show (PySem.W.clsIn K C).isSome = true from h1, h2]; decide)]
    exact h3
theorem kit_type {T : String} (h : PySem.W.kitMeta T = true) (h3 : PySem.W.subIn K (.ref D) (.type T) = some b) : PySem.W.kitOne K (.ref D) (.type T) = some b := by
  unfold PySem.W.kitOne
  rw [if_neg (show ¬ ((Value.ref D == Value.type T) = true) from Bool.false_ne_true)]
  show (if PySem.W.kitMeta T = true then PySem.W.subIn K (.ref D) (.type T) else none) = some b
  rw [if_pos h]; exact h3
end
end VL
set_option maxHeartbeats 2000000
namespace VL
open PySem L2 PyProof.Rows
/-! ### dicts whose keys are tuples -/
mutual
def keyN : D → Option NestedKey
  | .non => some .none
  | .bl _ => none
  | .int i => some (.num i)
  | .str x => some (.text x)
  | .tup xs => match keyNs xs with
    | some ks => some (.tup ks)
    | none => none
  | .lst _ _ => none
  | .dic _ _ _ => none
  | .dit _ _ _ => none
  | .obj _ _ _ _ => none
  | .opq => none
  | .at _ _ => none
def keyNs : List D → Option (List NestedKey)
  | [] => some []
  | x :: xs => match keyN x, keyNs xs with
    | some k, some ks => some (k :: ks)
    | _, _ => none
end
/-- a tuple as a key -/
def keyT : D → Option NestedKey
  | .tup xs => match keyNs xs with
    | some ks => some (.tup ks)
    | none => none
  | _ => none
mutual
def nkD : NestedKey → D
  | .none => .non
  | .num i => .int i
  | .text x => .str x
  | .tup ks => .tup (nkDs ks)
def nkDs : List NestedKey → List D
  | [] => []
  | k :: ks => nkD k :: nkDs ks
end
section
variable {K : PySem.W.Frag} {cs : Cs} {H : Hp} {Z : Addr → Prop}
theorem KeysIs.len : ∀ {ks : List NestedKey} {vs : List V}, KeysIs K H ks vs → vs.length = ks.length
  | [], _, h => by rw [show _ = _ from h]; rfl
  | k :: ks, vs, h => by
    obtain ⟨v, vs', rfl, _, h2⟩ := h
    rw [List.length_cons, List.length_cons, KeysIs.len h2]
theorem KeysIs.app : ∀ {ks : List NestedKey} {vs : List V} {k : NestedKey} {v : V}, KeysIs K H ks vs → KeyIs K H k v → KeysIs K H (ks ++ [k]) (vs ++ [v])
  | [], _, k, v, h, r => by rw [show _ = _ from h]; exact ⟨v, [], rfl, r, rfl⟩
  | j :: ks, vs, k, v, h, r => by
    obtain ⟨w, vs', rfl, h1, h2⟩ := h
    exact ⟨w, vs' ++ [v], rfl, h1, KeysIs.app h2 r⟩
theorem KeysIs.get : ∀ {ks : List NestedKey} {vs : List V} {i : Nat} {k : NestedKey}, KeysIs K H ks vs → ks[i]? = some k → ∃ v, vs[i]? = some v ∧ KeyIs K H k v
  | [], _, i, k, _, e => by simp at e
  | j :: ks, vs, 0, k, h, e => by
    obtain ⟨w, vs', rfl, h1, h2⟩ := h
    have : j = k := by simpa using e
    subst this
    exact ⟨w, rfl, h1⟩
  | j :: ks, vs, i + 1, k, h, e => by
    obtain ⟨w, vs', rfl, h1, h2⟩ := h
    obtain ⟨v, e1, e2⟩ := KeysIs.get (i := i) h2 (by simpa using e)
    exact ⟨v, by simpa using e1, e2⟩
end
/-! ### what the heap has -/
section
variable {X : Cx} {pins : List (Addr × Obj)} {σ : L2.St} {H : Hp} {s : Shared}
def hasN (ks : List NestedKey) (k : NestedKey) : Bool := decide (k ∈ ks)
def valN {α : Type} (ks : List NestedKey) (xs : List α) (k : NestedKey) : Option α := ((ks.zip xs).find? fun p => decide (p.1 = k)).map (·.2)
def replN {α : Type} (k : NestedKey) (x : α) : List NestedKey → List α → List α
  | j :: ks, y :: ys => (if j = k then x else y) :: replN k x ks ys
  | _, _ => []
theorem RL.valN {K : PySem.W.Frag} {cs : Cs} {Z : Addr → Prop} {k : NestedKey} {d : D} : ∀ {ks : List NestedKey} {xs : List D} {vs : List V} {F : List Addr}, RL K cs H Z xs vs F → valN ks xs k = some d → ∃ v G, VL.valN ks vs k = some v ∧ R K cs H Z d v G ∧ ∀ a ∈ G, a ∈ F
  | [], xs, vs, F, r, h => by simp [VL.valN] at h
  | j :: ks, [], vs, F, r, h => by simp [VL.valN] at h
  | j :: ks, x :: xs, vs, F, r, h => by
    obtain ⟨v, vs', F1, F2, rfl, r1, r2, rfl⟩ := r
    by_cases e : j = k
    · subst e
      have : d = x := by simpa [VL.valN] using h.symm
      subst this
      exact ⟨v, F1, by simp [VL.valN], r1, fun a m => List.mem_append_left _ m⟩
    · obtain ⟨w, G, h1, h2, h3⟩ := RL.valN (ks := ks) (d := d) r2 (by simpa [VL.valN, e] using h)
      exact ⟨w, G, by simpa [VL.valN, e] using h1, h2, fun a m => List.mem_append_right _ (h3 a m)⟩
theorem RL.replN {K : PySem.W.Frag} {cs : Cs} {Z : Addr → Prop} {k : NestedKey} {x : D} {w : V} (rx : R K cs H Z x w []) : ∀ {ks : List NestedKey} {xs : List D} {vs : List V}, RL K cs H Z xs vs [] → RL K cs H Z (replN k x ks xs) (replN k w ks vs) []
  | [], xs, vs, r => by cases xs <;> exact ⟨rfl, rfl⟩
  | j :: ks, [], vs, r => by rw [r.1]; exact ⟨rfl, rfl⟩
  | j :: ks, y :: ys, vs, r => by
    obtain ⟨v, vs', F1, F2, rfl, r1, r2, e⟩ := r
    have e := List.append_eq_nil_iff.mp e.symm
    rw [e.1] at r1; rw [e.2] at r2
    refine ⟨_, _, [], [], rfl, ?_, RL.replN rx r2, rfl⟩
    split
    · exact rx
    · exact r1
theorem Vals.snoc {vs : List V} {us : List Value} {v : V} {u : Value} (h : Vals vs us) (r : RelV v u) : Vals (vs ++ [v]) (us ++ [u]) := Paired.snoc h r
end
theorem DgO.len {cs : Cs} {a : Addr} {o : Obj} {ks : List NestedKey} {kas : List Addr} {vs : List V} (g : DgO cs a o ks kas vs) : ks.length = vs.length ∧ ks.length = kas.length := by
  obtain ⟨_, _, _, _, _, w, es, ep, xs, _, _, _, e4, e5, e6⟩ := g
  have := Paired.length e6
  subst e4 e5
  simp at this ⊢
  exact this.symm
end VL
set_option maxHeartbeats 2000000
namespace VL
open PySem L2 PyProof.Rows
/-! ### dicts whose keys are tuples: in, d[k], d[k] = v, get, {} -/
section
variable {X : Cx} {cs : Cs} {L : List Nat} {a b c : Expr} {pos p1 : Pos} {ta tb tc : TED} {tp : TPD} {i : Nat}
/-- {} -/
def dgnew_ : TED := fun _ Q => Q (.dit true [] [])
/-- k in d -/
def dInG (neg : Bool) : D → D → (D → Prop) → Prop
  | x, .dit _ ks _, Q => ∃ k, keyT x = some k ∧ k.depth ≤ 8 ∧ Q (.bl (if neg then !hasN ks k else hasN ks k))
  | _, _, _ => False
def dGix : D → D → (D → Prop) → Prop
  | .dit _ ks xs, y, Q => ∃ k, keyT y = some k ∧ k.depth ≤ 8 ∧ ∃ d, valN ks xs k = some d ∧ Q d
  | _, _, _ => False
/-- what is behind d[k] = x -/
def dPutG (ks : List NestedKey) (xs : List D) (k : NestedKey) (x : D) (Q : D → Prop) : Prop :=
  k.depth ≤ 8 ∧ ks.length < sizeLine ∧ (hasN ks k = false → Q (.dit true (ks ++ [k]) (xs ++ [x]))) ∧ (hasN ks k = true → Q (.dit true ks (replN k x ks xs)))
def pgset_ (i : Nat) (tp : TPD) (tb : TED) (ta : TED) : TSD := fun E env => ta env fun x => tp env fun put d => tb env fun k => ∃ ks xs, d = .dit true ks xs ∧ ∃ k0, keyT k = some k0 ∧ dPutG ks xs k0 x fun d' => E.nx (env.set i (some (put d')))
def gget_ (ta tb tc : TED) : TED := fun env Q => ta env fun d => match d with
  | .dit _ ks xs => tb env fun k => tc env fun z => ∃ k0, keyT k = some k0 ∧ k0.depth ≤ 8 ∧ match valN ks xs k0 with
    | some x => noOwn x = true ∧ Q x
    | none => Q z
  | _ => False
end
end VL
set_option maxHeartbeats 2000000
namespace VL
open PySem L2 PyProof.Rows
/-! ### walks of dicts -/
section
variable {P : Program} {w : World} {K : PySem.W.Frag} {tg : Expr} {d : Addr} {o : Obj} {es : Array DictEntry} {ep : Nat}
end
section
variable {X : Cx} {cs : Cs} {tg a : Expr} {ta : TED}
/-- for k in d -/
def itg_ (ta : TED) : TAD := fun env Q => ta env fun d => match d with
  | .dit _ ks _ => Q (ks.map nkD)
  | _ => False
end
end VL
set_option maxHeartbeats 2000000
namespace VL
open PySem L2 PyProof.Rows
/-! ### the place P[k], P a dict; d.values(); len(d) -/
section
variable {K : PySem.W.Frag} {cs : Cs} {H H' : Hp} {Z Z' : Addr → Prop}
end
section
variable {X : Cx} {cs : Cs} {L : List Nat} {tg a b c : Expr} {pos p1 apos : Pos} {ta tb tc : TED} {tp : TPD} {i : Nat}
def dPg : D → D → ((D → D) → D → Prop) → Prop
  | .dit true ks xs, y, Q => ∃ k j x, keyT y = some k ∧ k.depth ≤ 8 ∧ ks[j]? = some k ∧ xs[j]? = some x ∧ Q (fun e' => .dit true ks (xs.set j e')) x
  | _, _, _ => False
def pgx_ (tp : TPD) (tb : TED) : TPD := fun env Q => tp env fun put d => tb env fun k => dPg d k fun c x => Q (put ∘ c) x
end
/-! ### for v in d.values() -/
section
variable {P : Program} {w : World} {K : PySem.W.Frag} {tg : Expr} {d : Addr} {o : Obj}
end
section
variable {P : Program} {w : World} {K : PySem.W.Frag} {tg : Expr} {d : Addr} {o : Obj} {es : Array DictEntry} {ep : Nat}
end
section
variable {X : Cx} {cs : Cs} {tg e a : Expr} {ta : TED} {apos cpos : Pos}
/-- for v in d.values() -/
def itgv_ (ta : TED) : TAD := fun env Q => ta env fun d => match d with
  | .dit _ _ xs => Q (frzL xs)
  | _ => False
end
end VL
set_option maxHeartbeats 2000000
namespace VL
open PySem L2 PyProof.Rows
/-! ### methods of what stands in a list -/
theorem KdOk.app {σ τ : L2.St} {ks : List (Option Nat)} {us ws : List V} (h : KdOk σ ks us ws) : KdOk (σ ++ τ) ks us ws := by
  induction h with
  | nil => exact .nil
  | io h _ ih => exact .io (by rw [List.getElem?_append_left (List.getElem?_eq_some_iff.mp h).1]; exact h) ih
  | tmp _ ih => exact .tmp ih
section
variable {K : PySem.W.Frag} {cs : Cs} {e : En} {H H' : Hp} {Z : Addr → Prop}
/-- a place in the middle is taken away -/
theorem Rel.take {σ1 σ2 : L2.St} {env1 env2 : Env} {x : Option V} {d : D} {Fs : Nat → List Addr} (r : Rel K cs e H Z (σ1 ++ x :: σ2) (env1 ++ some d :: env2) Fs) (hl : env1.length = σ1.length) (hio : ∀ p ∈ e.io, p.1 < σ1.length) :
    ∃ v F Fs', x = some v ∧ R K cs H Z d v F ∧ F.Nodup ∧ (∀ a ∈ F, ¬ Z a ∧ (e.W a ∨ e.H0 a = none) ∧ ∀ j, a ∉ Fs' j) ∧ Rel K cs e H Z (σ1 ++ σ2) (env1 ++ env2) Fs' := by
  have hn : (env1 ++ some d :: env2)[env1.length]? = some (some d) := by rw [List.getElem?_append_right (Nat.le_refl _)]; simp
  obtain ⟨v, h1, h2⟩ := r.slot _ d hn
  rw [hl, List.getElem?_append_right (Nat.le_refl _)] at h1
  have hx : x = some v := by simpa using h1
  let sh : Nat → Nat := fun i => if i < σ1.length then i else i + 1
  have shn : ∀ i, sh i ≠ env1.length := fun i => by
    show (if i < σ1.length then i else i + 1) ≠ _
    split <;> omega
  have shi : ∀ i j, i ≠ j → sh i ≠ sh j := fun i j ne => by
    show (if i < σ1.length then i else i + 1) ≠ (if j < σ1.length then j else j + 1)
    split <;> split <;> omega
  have she : ∀ i, (env1 ++ env2)[i]? = (env1 ++ some d :: env2)[sh i]? := fun i => by
    show _ = (env1 ++ some d :: env2)[if i < σ1.length then i else i + 1]?
    split
    · rw [List.getElem?_append_left (by omega), List.getElem?_append_left (by omega)]
    · rw [List.getElem?_append_right (by omega), List.getElem?_append_right (by omega), show i + 1 - env1.length = (i - env1.length) + 1 by omega, List.getElem?_cons_succ]
  have shs : ∀ i, (σ1 ++ σ2)[i]? = (σ1 ++ x :: σ2)[sh i]? := fun i => by
    show _ = (σ1 ++ x :: σ2)[if i < σ1.length then i else i + 1]?
    split
    · rw [List.getElem?_append_left (by omega), List.getElem?_append_left (by omega)]
    · rw [List.getElem?_append_right (by omega), List.getElem?_append_right (by omega), show i + 1 - σ1.length = (i - σ1.length) + 1 by omega, List.getElem?_cons_succ]
  refine ⟨v, Fs env1.length, fun i => Fs (sh i), hx, h2, r.nd _, fun a m => ⟨r.dz _ a m, r.own _ a m, fun j n => r.dj _ _ a (shn j) n m⟩, ?_⟩
  refine ⟨fun i d' h => ?_, fun i h => ?_, fun i => r.nd _, fun i j a ij m n => r.dj _ _ a (shi i j ij) m n, fun i a m => r.dz _ a m, r.za, fun i a m => r.own _ a m, r.fr, r.th, r.tb, r.z0, r.z1, fun p m => ?_, r.gs, ?_⟩
  · rw [she] at h
    obtain ⟨w, a1, a2⟩ := r.slot _ d' h
    exact ⟨w, by rw [shs]; exact a1, a2⟩
  · exact r.off _ fun d' => by have := h d'; rw [she] at this; exact this
  · have := r.io p m
    have hp := hio p m
    rw [List.getElem?_append_left hp] at this ⊢
    exact this
  · have := r.len
    simp only [List.length_append, List.length_cons] at this ⊢
    omega
end
section
variable {X : Cx} {cs : Cs} {W : WX} {a b : Expr} {es : List Expr} {e0 : Expr} {k i : Nat} {c m : Str} {ps : List Str} {io : List Nat} {s : SpG} {kinds : List (Option Nat)} {pos pos2 apos : Pos} {tb : TED} {u : TXA}
def methI_ (i : Nat) (tb : TED) (c : Str) (kinds : List (Option Nat)) (io : List Nat) (s : SpG) (u : TXA) : TXE := fun env QD QX => ∃ xs, env[i]? = some (some (.lst true xs)) ∧ tb env fun kd => ∃ z n mk ns ys, kd = .int z ∧ ixN xs.length z = some n ∧ xs[n]? = some (.obj mk c ns ys) ∧ ∀ p : Addr,
  u (env.set i (some (.lst true (xs.set n (.at p none))))) (fun env1 ts => ∃ As, getK kinds env1 ts = some As ∧ okIo io 0 (.obj mk c ns ys :: As) = true ∧
    ∀ Qx Qe, (∀ r As', (∃ d' rest env2 xs2, As' = d' :: rest ∧ putKs kinds rest env1 = some env2 ∧ env2[i]? = some (some (.lst true xs2)) ∧ xs2[n]? = some (.at p none) ∧ QD (env2.set i (some (.lst true (xs2.set n d')))) r) → Qx r As') → s (.obj mk c ns ys :: As) Qx Qe) QX
end
end VL
set_option maxHeartbeats 2000000
namespace VL
open PySem L2 PyProof.Rows
section
variable {X : Cx} {cs : Cs} {pos : Pos}
/-! ### a loop over a slot's own list that changes its elements: each is moved out to the loop's name, and put back behind the turn -/
end
end VL
set_option maxHeartbeats 2000000
namespace VL
open PySem L2 PyProof.Rows
section
variable {X : Cx} {cs : Cs} {W : WX} {L : List Nat} {pos : Pos} {tx : TXE}
/-! ### a loop over what an expression gives that may raise or change slots: the list is frozen -/
def forE_ (i : Nat) (tx : TXE) (tb : TSD) : TSD := fun E env => tx env (fun env1 d => ∃ m xs, d = .lst m xs ∧ ∃ Pv : Nat → Env → Prop, Pv 0 env1 ∧
  (∀ k d0 env', (frzL xs)[k]? = some d0 → Pv k env' → tb { nx := Pv (k + 1), ct := Pv (k + 1), bk := E.nx, rt := E.rt, ex := E.ex } (env'.set i (some d0))) ∧ ∀ env', Pv xs.length env' → E.nx env') E.ex
end
end VL
set_option maxHeartbeats 2000000
namespace VL
open PySem L2 PyProof.Rows
/-! ### a def with one default, a whole number -/
structure KnGD (P : Program) (w : World) (K : PySem.W.Frag) (mg : Str → Option Value) (base : Heap) (cs : Cs) (x : Str) (k : Nat) (ps : List Str) (io : List Nat) (s : SpG) (n : Int) : Prop where
  ex : ∃ (f : Addr) (fd : FuncData), FnOk P w K mg base (L2.CX P w) k f fd ps (spOfG K cs io s) ∧ mg x = some (.ref f) ∧ PySem.W.keepIn K (.ref f) = true ∧ Binds K fd ps [] ∧ ∃ ds, Vals [.int n] ds ∧ Binds K fd ps ds
section
variable {X : Cx} {cs : Cs} {W : WX} {a b : Expr} {es : List Expr} {kinds : List (Option Nat)} {io : List Nat} {s : SpG} {u : TXA} {k : Nat} {ps : List Str} {x m c : Str} {p pos apos : Pos} {n : Int}
end
end VL
namespace VL
open PySem L2 PyProof.Rows
/-! ### x in xs, of data of any depth -/
section
variable {K : PySem.W.Frag} {cs : Cs}
end
end VL
set_option maxHeartbeats 2000000
namespace VL
open PySem L2 PyProof.Rows
/-! ### d == e of dicts with tuple keys: the same keys and values -/
section
variable {prog : Program} {w : World} {K : Type} [DecidableEq K] {knd : HeapKind prog w K} {A : Around} {E : Value → Shared → Prop} {s : Shared}
end
end VL
namespace VL
open PySem L2 PyProof.Rows
def dEqG (neg : Bool) : D → D → (D → Prop) → Prop
  | .dit _ ks xs, .dit _ ls ys, Q => ks = ls ∧ (∀ (i : Nat) (x y : D), xs[i]? = some x → ys[i]? = some y → eqOk x 59 = true ∧ eqOk y 59 = true ∧ deq x y = true) ∧ Q (.bl (!neg))
  | _, _, _ => False
section
variable {X : Cx} {cs : Cs}
theorem RL.idx {K : PySem.W.Frag} {H : Hp} {Z : Addr → Prop} : ∀ {xs : List D} {vs : List V} {F : List Addr}, RL K cs H Z xs vs F → ∀ {i : Nat} {v : V}, vs[i]? = some v → ∃ d G, xs[i]? = some d ∧ R K cs H Z d v G
  | [], vs, F, r, i, v, h => by rw [r.1] at h; cases h
  | x :: xs, vs, F, r, i, v, h => by
    obtain ⟨v0, vs', F1, F2, rfl, r1, r2, rfl⟩ := r
    cases i with
    | zero => cases h; exact ⟨x, F1, rfl, r1⟩
    | succ i => exact RL.idx r2 h
end
end VL
set_option maxHeartbeats 2000000
namespace VL
open PySem L2 PyProof.Rows
/-! ### for x in range(e), where e changes slots -/
section
variable {X : Cx} {cs : Cs} {W : WX} {L : List Nat} {pos : Pos}
def forI_ (i : Nat) (ti : TXA) (tb : TSD) : TSD := fun E env => ti env (fun env1 ds => ∃ Pv : Nat → Env → Prop, Pv 0 env1 ∧
  (∀ (k : Nat) d env', ds[k]? = some d → Pv k env' → tb { nx := Pv (k + 1), ct := Pv (k + 1), bk := E.nx, rt := E.rt, ex := E.ex } (env'.set i (some d))) ∧ ∀ env', Pv ds.length env' → E.nx env') E.ex
end
end VL
namespace VL
open PySem L2 PyProof.Rows
end VL
namespace VL
open PySem L2 PyProof.Rows
/-! ### x[e] of a name, where e changes other slots -/
section
variable {X : Cx} {cs : Cs} {W : WX} {a b : Expr} {pos : Pos} {tb : TXE}
def ixv_ (j : Nat) (tb : TXE) : TXE := fun env QD QX => (∃ d, env[j]? = some (some d)) ∧ tb env (fun env2 e => ∃ d, env2[j]? = some (some d) ∧ dIx d e fun r => noOwn r = true ∧ QD env2 r) QX
end
end VL
namespace VL
open PySem L2 PyProof.Rows
/-! ### what an expression gives is frozen -/
section
variable {X : Cx} {cs : Cs} {W : WX} {a : Expr} {ta : TXE}
def frzx_ (ta : TXE) : TXE := fun env QD QX => ta env (fun env1 d => QD env1 (frz d)) QX
end
end VL
set_option maxHeartbeats 2000000
namespace VL
open PySem L2 PyProof.Rows
/-! ### for k, v in d.items() -/
section
variable {P : Program} {w : World} {K : PySem.W.Frag} {d : Addr} {o : Obj} {es : Array DictEntry} {ep : Nat}
end
section
variable {X : Cx} {cs : Cs} {e a : Expr} {ta : TED} {apos cpos : Pos} {elts : List Expr} {kk : Nat} {tpos : Pos}
end
end VL
namespace VL
open PySem L2 PyProof.Rows
/-! ### [e for a, b in ..] -/
section
variable {X : Cx} {cs : Cs} {iter : Expr} {pos : Pos}
end
end VL
namespace VL
open PySem L2 PyProof.Rows
/-! ### x == e, x an own name, e changes other slots -/
section
variable {X : Cx} {cs : Cs} {W : WX} {a b : Expr} {pos : Pos} {tb : TXE}
end
end VL
namespace VL
open PySem L2 PyProof.Rows
/-! ### list(d), d a dict with tuple keys: its keys -/
section
variable {X : Cx} {cs : Cs}
end
end VL
set_option maxHeartbeats 2000000
namespace VL
open PySem L2 PyProof.Rows
/-! ### a < b < c -/
section
variable {X : Cx} {cs : Cs} {a b c : Expr} {pos : Pos} {ta tb tc : TED}
def ch_ (f g : D → D → (D → Prop) → Prop) (ta tb tc : TED) : TED := fun env Q => ta env fun x => tb env fun y => f x y fun z => match z with
  | .bl k => (k = true → tc env fun w => g y w Q) ∧ (k = false → Q (.bl false))
  | _ => False
/-! ### slices of tuples, the whole one too -/
def dSlA : D → Option Int → Option Int → (D → Prop) → Prop
  | .tup xs, lo, hi, Q => noOwnL xs = true ∧ Q (.tup (cutD xs lo hi))
  | _, _, _, _ => False
def slA_ (ta : TED) (tl th : TOD) : TED := fun env Q => ta env fun d => tl env fun lo => th env fun hi => dSlA d lo hi Q
end
end VL
namespace VL
open PySem L2 PyProof.Rows
/-! ### a comprehension within a comprehension -/
end VL
namespace VL
open PySem L2 PyProof.Rows
/-! ### len of a dict with tuple keys -/
section
variable {prog : Program} {w : World} {A : Around} {E : Value → Shared → Prop} {s : Shared}
end
section
variable {X : Cx} {cs : Cs}
def dLenG1 : D → (D → Prop) → Prop
  | .dit _ ks _, Q => Q (.int (ks.length : Nat))
  | _, _ => False
end
end VL
set_option maxHeartbeats 2000000
namespace VL
open PySem L2 PyProof.Rows
/-! ### a display of one pair with a tuple for key -/
section
variable {X : Cx} {cs : Cs} {a b : Expr} {pos : Pos} {ta tb : TED}
def dg1_ (ta tb : TED) : TED := fun env Q => ta env fun x => tb env fun y => ∃ k, keyT x = some k ∧ k.depth ≤ 8 ∧ Q (.dit true [k] [y])
end
end VL
namespace RZ2
open PySem PySem.Spec PyProof.Rows L2 RZ
/-- how many unlike -/
def unlikeI (ns : List Int) : Nat := (ns.foldl step_dedup []).length
end RZ2
namespace VL
open PySem L2 PyProof.Rows
section
variable {X : Cx} {cs : Cs} {a : Expr} {pos : Pos} {ta : TED}
/-- len(set(xs)), ints -/
def lenu_ (ta : TED) : TED := fun env Q => ta env fun d => ∃ m, ∃ ns : List Int, d = .lst m (ns.map .int) ∧ ns.length ≤ 4000 ∧ Q (.int (RZ2.unlikeI ns : Nat))
end
end VL
set_option maxHeartbeats 2000000
namespace VL
open PySem L2 PyProof.Rows
/-! ### dict(d), keys that are pairs of small numbers -/
section
variable {prog : Program} {w : World} {K : Type} [DecidableEq K] {knd : HeapKind prog w K} {A : Around} {E : Value → Shared → Prop} {s : Shared}
end
/-! hashes of pairs of numbers below 8 -/
def sq8 : List (Nat × Nat) := (List.range 8).flatMap fun i => (List.range 8).map fun j => (i, j)
def pq (p : Nat × Nat) : NestedKey := .tup [.num p.1, .num p.2]
def smallK (k : NestedKey) : Prop := ∃ p : Nat × Nat, p ∈ sq8 ∧ k = pq p
section
variable {X : Cx} {cs : Cs}
def dDictG1 : D → (D → Prop) → Prop
  | .dit _ ks xs, Q => noOwnL xs = true ∧ (∀ k ∈ ks, smallK k) ∧ Q (.dit true ks xs)
  | _, _ => False
abbrev dDictG := one_ dDictG1
end
/-- known with more room -/
theorem KnV.up {P : Program} {w : World} {K : PySem.W.Frag} {mg : Str → Option Value} {base : Heap} {cs : Cs} {c m : Str} {k k' : Nat} {ps : List Str} {io : List Nat} {s : SpG} (h : KnV P w K mg base cs c m k ps io s) (hk : k ≤ k') : KnV P w K mg base cs c m k' ps io s := by
  obtain ⟨C, f, fd, h1, h2, h3, F, h5⟩ := h.ex
  exact ⟨C, f, fd, h1, h2, h3, ⟨F.len, fun A outer s' H args us vs Q E hr => F.run A outer s' H args us vs Q E (hr.mono hk)⟩, h5⟩
end VL
set_option maxHeartbeats 2000000
namespace VL
open PySem L2
/-! ### a clause that some of the exceptions stand under -/
structure KnTc (K : PySem.W.Frag) (mg : Str → Option Value) (cs : Cs) (x : Str) (ca : Str → Bool) : Prop where
  ex : ∃ C, mg x = some (.ref C) ∧ ∀ n a, (n, a) ∈ cs.xc → PySem.W.exmOne K (.ref a) (.ref C) = some (ca n)
section
variable {X : Cx} {cs : Cs} {L : List Nat} {x n : Str} {ca : Str → Bool} {body suite : List Stmt} {b₀ : Stmt} {np pos pos' : Pos} {t u : TSD}
end
/-! ### several clauses -/
/-- the clauses: which classes each takes, and its suite -/
def many_ : List ((Str → Bool) × TSD) → EndsD → XC → Env → Prop
  | [], _, _, _ => False
  | (ca, u) :: r, E, xc, env => (ca xc.cls = true ∧ u E env) ∨ (ca xc.cls = false ∧ many_ r E xc env)
def tryM_ (cl : List ((Str → Bool) × TSD)) (t : TSD) : TSD := fun E env => t { E with ex := fun xc env1 => many_ cl E xc env1 } env
inductive VHs (X : Cx) (cs : Cs) (L : List Nat) : List ExceptHandler → List ((Str → Bool) × TSD) → Prop
  | nil : VHs X cs L [] []
  | cons {x : Str} {ca : Str → Bool} {u : TSD} {b₀ : Stmt} {suite : List Stmt} {np pos' : Pos} {hds : List ExceptHandler} {l : List ((Str → Bool) × TSD)} (h : KnTc X.K X.mg cs x ca) (hg : Gl X x)
      (hsu : ∀ (a : Addr) (oe : Obj) (pn : List (Addr × Obj)), VSs (X.suite a ((a, oe) :: pn)) cs L (b₀ :: suite) u) (r : VHs X cs L hds l) (hdb : (x == ("__debug__" : Str)) = false := by decide) :
      VHs X cs L (.ExceptHandler (some (.Name x np)) none (b₀ :: suite) pos' :: hds) ((ca, u) :: l)
section
variable {X : Cx} {cs : Cs} {L : List Nat} {body : List Stmt} {h₀ : ExceptHandler} {hds : List ExceptHandler} {cl : List ((Str → Bool) × TSD)} {pos : Pos} {t : TSD}
theorem vhs_ok {e : En} (hl : ∀ q, q ∈ e.io → q.1 ∈ L) {hs : List ExceptHandler} {l : List ((Str → Bool) × TSD)} (h : VHs X cs L hs l) :
    ∃ ll, HdsOk X hs ll ∧ ∀ (D : Ends) (E : EndsD) (xc : XC) (a : Addr) (d : Option Addr) (σ : L2.St) (H : Hp) (env : Env) (Z : Addr → Prop) (Fs : Nat → List Addr), (xc.cls, a) ∈ cs.xc → Rel X.K cs e H Z σ env Fs → EndsOk X.K cs e E D → many_ l E xc env →
      wMany X.K (fun _ _ _ _ => False) D ll (.ref a) d σ H := by
  induction h with
  | nil => exact ⟨[], .nil, fun _ _ _ _ _ _ _ _ _ _ _ _ _ z => z⟩
  | @cons x ca u b₀ suite np pos' hds l h hg hsu r hdb ih =>
    obtain ⟨ll, h1, h2⟩ := ih
    obtain ⟨C, hC, hx⟩ := h.ex
    refine ⟨(.ref C, fun _ _ _ => tSOf X.K cs e u) :: ll, .cons ⟨hg, hdb, .inl hC⟩ (fun a oe cls d pn _ _ => (hsu a oe pn).run e hl) h1, fun D E xc a d σ H env Z Fs m rl ok z => ?_⟩
    refine ⟨ca xc.cls, hx _ _ m, fun hb _ _ => ?_, fun hb => ?_⟩
    · rcases z with ⟨_, z⟩ | ⟨z, _⟩
      · exact ⟨env, Z, Fs, E, rl, z, ok⟩
      · rw [hb] at z; cases z
    · rcases z with ⟨z, _⟩ | ⟨_, z⟩
      · rw [hb] at z; cases z
      · exact h2 D E xc a d σ H env Z Fs m rl ok z
theorem vs_tryM (hs : X.stack = X.env :: X.outer) (hf : X.env.frame = some X.env.locals)
    (hb : ∀ (W : WX) (pn : List (Addr × Obj)) (xe : Value → Shared → Prop), L2.Takes (X.tr pn xe) W → VSsX (X.tr pn xe) cs W L body t)
    (hh : VHs X cs L (h₀ :: hds) cl) : VS X cs L (.Try body (h₀ :: hds) [] [] pos) (tryM_ cl t) := by
  refine ⟨fun e hl => ?_⟩
  obtain ⟨ll, h1, h2⟩ := vhs_ok hl hh
  exact ps_weak (ps_try_many (tb := fun W => tSOfX X.K cs W e t) hs hf takes_none5 (fun W pn xe tk _ => (hb W pn xe tk).run e hl) h1) fun D σ H ⟨env, Z, Fs, E, rl, q, ok⟩ =>
    ⟨env, Z, Fs, { E with ex := fun xc env1 => many_ cl E xc env1 }, rl, q, ⟨ok.nx, ok.bk, ok.ct, ok.rt⟩, fun xc cls d σ' H' Z' env' Fs' rl' isx z => by
      obtain ⟨a, mem, rfl, _⟩ := isx
      exact h2 D E xc a d σ' H' env' Z' Fs' mem rl' ok z⟩
end
end VL
set_option maxHeartbeats 2000000
namespace VL
open PySem L2
/-! ### try: .. except x as n: y = [isinstance(n, ..), ..], several classes -/
structure KnEm (K : PySem.W.Frag) (cs : Cs) (c : Value) : Prop where
  ca : ∀ n D, (n, D) ∈ cs.xc → PySem.W.exmOne K (.ref D) c = some true
  ex : ∀ n D, (n, D) ∈ cs.xc → ExcC K D
def tryAsM_ (i j : Nat) (bs : Str → List Bool) (t : TSD) : TSD := fun E env => i ≠ j ∧ t { E with ex := fun xc env1 => xc.row = none ∧ i < env1.length ∧ E.nx (((env1.set i none).set j (some (.lst true ((bs xc.cls).map .bl)))).set i none) } env
section
variable {X : Cx} {cs : Cs} {L : List Nat}
theorem vs_tryAsM {x n y : Str} {c : Value} {i j : Nat} {bs : Str → List Bool} {body : List Stmt} {es : List Expr} {t : TSD} {np pos pos' py pl pa : Pos} (hs : X.stack = X.env :: X.outer) (hf : X.env.frame = some X.env.locals) (hN : X.N.Nodup) (hi : X.N[i]? = some n) (hln : X.env.kindOf n = some .local) (hc : Names X x c) (hD : KnEm X.K cs c)
    (hb : ∀ (W : WX) (pn : List (Addr × Obj)) (xe : Value → Shared → Prop), L2.Takes (X.tr pn xe) W → VSsX (X.tr pn xe) cs W L body t) (hiL : i ∉ L) (hjL : j ∉ L)
    (hes : ∀ (m : Str) (D : Addr), (m, D) ∈ cs.xc → ∀ (a : Addr) (oe : Obj) (pn : List (Addr × Obj)), Zc (.ref D) none oe → (∃ vs, oe.data = .fields vs) → PA (X.suite a ((a, oe) :: pn)) es (tIsEs cs i a (bs m))) (hlen : ∀ m, (bs m).length ≤ sizeLine)
    (hj : X.N[j]? = some y := by rfl) (hy : Loc X.env.scope y := by first | exact .inl rfl | exact .inr rfl) (hsw : swapsWith (.List es pl) (some (.Name y py)) pa.line X.env = pure false := by rfl)
    (hfn : X.fn y = true ∨ X.env.scope.names.lookup y = some .local := by first | exact .inl rfl | exact .inr rfl | assumption) :
    VS X cs L (.Try body [.ExceptHandler (some (.Name x np)) (some n) [.Assign [.Name y py] (.List es pl) pa] pos'] [] [] pos) (tryAsM_ i j bs t) := by
  refine ⟨fun e hl => ?_⟩
  have main := ps_try_as (X := X) (tb := fun W => tSOfX X.K cs W e t) (ts := fun a cls d Dh σ H => ∃ m D, (m, D) ∈ cs.xc ∧ cls = .ref D ∧ d = none ∧ σ[i]? = some (some (.ref a)) ∧ ∀ H', Sm cs H H' → ∀ p, H' p = none → Dh.nx (σ.set j (some (.ref p))) (upd H' p (.lst ((bs m).map .bl)))) (Wout := fun _ _ _ _ => False) (pos := pos) (pos' := pos') (np := np) (b₀ := .Assign [.Name y py] (.List es pl) pa) (suite := []) hs hf hN hi hln hc takes0 (fun W pn xe tk _ => (hb W pn xe tk).run e hl) (fun a oe cls d pn hz hfl => by
    refine ⟨fun pins s σ H Dh I ⟨m, D, mem, e1, e2, h⟩ => ?_⟩
    subst e1 e2
    exact (pss_one (ps_weak (ps_set (X := X.suite a ((a, oe) :: pn)) hN hj hy (pe_lst (hes m D mem a oe pn hz hfl)) hsw hfn) fun Dh σ H (h : σ[i]? = some (some (.ref a)) ∧ ∀ H', Sm cs H H' → ∀ p, H' p = none → Dh.nx (σ.set j (some (.ref p))) (upd H' p (.lst ((bs m).map .bl)))) => ⟨h.1, fun H' s => ⟨by rw [List.length_map]; exact hlen m, fun p hp => h.2 H' s p hp⟩⟩)).run pins s σ H Dh I h)
  refine ps_weak main fun Dh σ H ⟨env, Z, Fs, E, rl, ⟨hij, q⟩, ok⟩ => ?_
  refine ⟨env, Z, Fs, { E with ex := fun xc env1 => xc.row = none ∧ i < env1.length ∧ E.nx (((env1.set i none).set j (some (.lst true ((bs xc.cls).map .bl)))).set i none) }, rl, q, ⟨ok.nx, ok.bk, ok.ct, ok.rt⟩, fun xc cls d σ' H1 Z1 env1 Fs1 r1 isx ⟨hr, hlt, z⟩ => ?_⟩
  obtain ⟨a0, mem, rfl, _, dn⟩ := isx
  refine ⟨true, hD.ca _ _ mem, fun _ a ha => ⟨xc.cls, a0, mem, rfl, dn hr, ?_, fun H' s p hp => ?_⟩, fun h => by cases h⟩
  · rw [List.getElem?_set_self (by rw [r1.len]; exact hlt)]
  · obtain ⟨Fs2, r2, _, _⟩ := r1.wipes i (some (.ref a)) fun q m w => hiL (w ▸ hl q m)
    have r3 := r2.ext (Ext.of (cs := cs) (s.trans (same_upd (o := .lst ((bs xc.cls).map .bl)) hp)))
    obtain ⟨Fs4, r4⟩ := r3.sets (i := j) (d := .lst true ((bs xc.cls).map .bl)) (v := .ref p) (F := [p]) ⟨p, (bs xc.cls).map .bl, [], rfl, upd_same, RL.bools (bs xc.cls), rfl⟩ (by simp) (fun b m => by
      rw [List.mem_singleton.mp m]
      have h0 := s.free hp
      exact ⟨fun z => (by obtain ⟨o, w⟩ := r1.za p z; rw [h0] at w; cases w), r1.free0 h0, fun k _ n => (by obtain ⟨o, w⟩ := r2.alloc n; rw [h0] at w; cases w)⟩) fun q m w => hjL (w ▸ hl q m)
    obtain ⟨Fs5, r5, _, _⟩ := r4.wipes i none fun q m w => hiL (w ▸ hl q m)
    exact ok.nx _ _ _ _ _ r5 z
end
end VL
set_option maxHeartbeats 2000000
namespace VL
open PySem L2
section
variable {X : Cx} {cs : Cs} {L : List Nat}
/-! ### x = y[k], behind which x is changed in place to the block's end: the part is moved out to x, and put back at the end -/
def alias_ (a r k : Nat) (tp : TPD) (tb : TSD) : TSD := fun E env => a < env.length ∧ tp env fun put d => (∃ zs, d = .lst true zs) ∧ ∀ p : Addr,
  tb { nx := fun env2 => ∃ ys2 d2, env2[r]? = some (some (.lst true ys2)) ∧ ys2[k]? = some (.at p none) ∧ env2[a]? = some (some d2) ∧ E.nx ((env2.set a none).set r (some (.lst true (ys2.set k d2)))),
       ct := fun _ => False, bk := fun _ => False, rt := fun _ _ => False, ex := fun _ _ => False } ((env.set r (some (put (.at p none)))).set a (some d))
theorem vss_alias (a r k : Nat) {x : Str} {e₁ : Expr} {rest : List Stmt} {tp : TPD} {t : TSD} {pos pos' : Pos} (ha : VPa X cs r e₁ tp) (hb : VSs X cs (a :: r :: L) rest t) (hN : X.N.Nodup) (hi : X.N[a]? = some x := by rfl) (hx : Loc X.env.scope x := by first | exact .inl rfl | exact .inr rfl) (hL : a ∉ r :: L := by decide) (hs : swapsWith e₁ (some (.Name x pos')) pos.line X.env = pure false := by rfl)
    (hf : X.fn x = true ∨ X.env.scope.names.lookup x = some .local := by first | exact .inl rfl | exact .inr rfl | assumption) : VSs X cs L (.Assign [.Name x pos'] e₁ pos :: rest) (alias_ a r k tp t) := by
  have har : r ≠ a := fun e => hL (e ▸ List.mem_cons_self)
  refine ⟨fun e hl => ?_⟩
  have hl' : ∀ v w : V, ∀ q ∈ (a, w) :: (r, v) :: e.io, q.1 ∈ a :: r :: L := fun v w q mq => by
    rcases List.mem_cons.mp mq with rfl | mq
    · exact List.mem_cons_self
    · rcases List.mem_cons.mp mq with rfl | mq
      · exact List.mem_cons_of_mem _ List.mem_cons_self
      · exact List.mem_cons_of_mem _ (List.mem_cons_of_mem _ (hl q mq))
  have hr : PSs X rest (fun D' σ' H' => ∃ v w : V, tSOf X.K cs { e with io := (a, w) :: (r, v) :: e.io } t D' σ' H') := ⟨fun pins s σ H Dh I ⟨v, w, h⟩ => (hb.run { e with io := (a, w) :: (r, v) :: e.io } (hl' v w)).run pins s σ H Dh I h⟩
  refine pss_weak (pss_cons (ps_set hN hi hx ha.run hs hf) hr) fun D σ H ⟨env, Z, Fs, E, rl, ⟨hae, q⟩, ok⟩ => ?_
  refine ⟨e, env, Z, Fs, rl, _, q, fun u H1 Z1 put d0 d v x1 hσ hd fo ⟨⟨zs, hz⟩, q⟩ => ?_⟩
  subst hz
  have rl1 := rl.ext x1
  obtain ⟨F1, Fe, F2, hF, re, up⟩ := fo
  have ndF := rl1.nd r
  rw [hF] at ndF
  have n1 := List.nodup_append.mp ndF
  have n2 := List.nodup_append.mp n1.2.1
  have inF : ∀ b, b ∈ Fe → b ∈ Fs r := fun b m => by rw [hF]; simp only [List.mem_append]; exact .inr (.inl m)
  obtain ⟨pd, rfl⟩ : ∃ pd, u = .ref pd := by
    obtain ⟨pd, _, _, e, _⟩ := id re
    exact ⟨pd, e⟩
  have rd := up H1 Z1 (.at pd none) [] (fun _ z => z) (fun a o h _ _ => h) ⟨rfl, (fun _ e => nomatch e), rfl⟩
  obtain ⟨Fs1, r1, k1, k2⟩ := rl1.focus hd hσ hF rd (fun _ z => z) (fun _ z => .inl z) (fun _ _ h _ => h) List.nodup_nil (fun a m => by cases m)
  obtain ⟨Fs2, r2⟩ := r1.sets (i := a) re n2.1 (fun b m => ⟨rl1.dz r b (inF b m), rl1.own r b (inF b m), fun l hl2 n => by
    by_cases el : l = r
    · rw [el, k2] at n
      simp only [List.nil_append, List.mem_append] at n
      rcases n with n | n
      · exact n1.2.2 b n b (List.mem_append_left _ m) rfl
      · exact n2.2.2 b m b n rfl
    · rw [k1 l el] at n; exact rl1.dj r l b (fun w => el w.symm) (inF b m) n⟩) (fun q mq w => hL (w ▸ List.mem_cons_of_mem _ (hl q mq)))
  have hal : a < σ.length := by rw [rl.len]; exact hae
  have r3 := r2.withio (j := r) (v := v) (by rw [List.getElem?_set_ne (fun w => har w.symm)]; exact hσ)
  have r3 := r3.withio (j := a) (v := .ref pd) (by rw [List.getElem?_set]; simp [hal])
  refine ⟨v, .ref pd, _, Z1, Fs2, _, r3, q pd, fun σ3 H3 Z3 env3 Fs3 r3 h => ?_, (fun _ _ _ _ _ _ h => h.elim), (fun _ _ _ _ _ _ h => h.elim), (fun _ _ _ _ _ _ _ _ _ _ _ _ h => h.elim)⟩
  obtain ⟨ys2, d2, g1, g3, g4, g5⟩ := h
  have hi3 : σ3[a]? = some (some (.ref pd)) := r3.io (a, .ref pd) List.mem_cons_self
  obtain ⟨v2, q1, q2⟩ := r3.slot a _ g4
  rw [hi3] at q1
  cases q1
  have hF3 := fun (b : Addr) (m : b ∈ Fs3 a) => (show ¬ Z3 b ∧ (e.W b ∨ e.H0 b = none) ∧ ∀ l, l ≠ a → b ∉ Fs3 l from ⟨r3.dz a b m, r3.own a b m, fun l ne => r3.dj a l b (fun w => ne w.symm) m⟩)
  have r4 := Rel.lessio (e := { e with io := (r, v) :: e.io }) (q := (a, V.ref pd)) r3
  have r4 := Rel.lessio (e := e) (q := (r, v)) r4
  obtain ⟨Fs4, r5, k3, k4⟩ := r4.wipes a (some (.ref pd)) (fun q mq w => hL (w ▸ List.mem_cons_of_mem _ (hl q mq)))
  have es : σ3.set a (some (.ref pd)) = σ3 := by
    apply List.ext_getElem?
    intro l
    rw [List.getElem?_set]
    split
    · rename_i w
      rw [← w, hi3]
      exact if_pos (List.getElem?_eq_some_iff.mp hi3).1
    · rfl
  rw [es] at r5
  have g1' : (env3.set a none)[r]? = some (some (.lst true ys2)) := by rw [List.getElem?_set_ne (fun w => har w.symm)]; exact g1
  obtain ⟨v0, s1, s2⟩ := r5.slot r _ g1'
  obtain ⟨p9, us9, u9, rfl, t9, hu9, ul9, fo9⟩ := foc_lst s2 g3
  obtain ⟨Fs6, r6, _⟩ := r5.foc_put (H' := H3) (Z' := Z3) (x' := d2) g1' s1 fo9 fun G1 Ge G2 hFe ndE hm rq => by
    obtain ⟨eu, _, eF⟩ := rq
    subst eu; subst eF
    exact ⟨Fs3 a, q2, fun _ z => z, fun _ z => .inl z, fun _ _ h _ => h, r3.nd a, fun b m => ⟨(hF3 b m).1, .inr ⟨fun l n => by
      by_cases el : l = a
      · rw [el, k4] at n; cases n
      · rw [k3 l el] at n; exact (hF3 b m).2.2 l el n, (hF3 b m).2.1⟩⟩⟩
  exact ok.nx _ _ _ _ _ r6 g5
end
/-! ### a part that is handed away within an expression -/
section
variable {X : Cx} {cs : Cs} {W : WX}
def mvx_ (i : Nat) (tp : TPD) : TXE := fun env QD _ => tp env fun put d => QD (env.set i (some (put .opq))) d
theorem ve_mvp (i : Nat) {e₁ : Expr} {tp : TPD} (ha : VPa X cs i e₁ tp) : VE X cs W e₁ (mvx_ i tp) :=
  ⟨fun en => pe_weak ha.run fun σ H Q ⟨vs, ds, env, Z, Fs, hl, hl2, hio, rl, QD, QX, q, k, _⟩ => ⟨en, env, Z, _, rl.trunc hl hio, _, q, fun u H1 Z1 put d0 d v x1 hσ hd fo q => by
    have rl1 := rl.ext x1
    have hi : i < σ.length := (List.getElem?_eq_some_iff.mp hσ).1
    obtain ⟨F1, Fe, F2, hF, re, up⟩ := fo
    have hF : Fs i = F1 ++ (Fe ++ F2) := by
      have hF : (if i < σ.length then Fs i else []) = F1 ++ (Fe ++ F2) := hF
      rwa [if_pos hi] at hF
    have hσ2 : (σ ++ vs.map some)[i]? = some (some v) := by rw [List.getElem?_append_left hi]; exact hσ
    have hd2 : (env ++ ds.map some)[i]? = some (some d0) := by rw [List.getElem?_append_left (by omega)]; exact hd
    have ndF := rl1.nd i
    rw [hF] at ndF
    have n1 := List.nodup_append.mp ndF
    have n2 := List.nodup_append.mp n1.2.1
    have inF : ∀ a, a ∈ Fe → a ∈ Fs i := fun a m => by rw [hF]; simp only [List.mem_append]; exact .inr (.inl m)
    have rd := up H1 Z1 .opq [] (fun _ z => z) (fun a o h _ _ => h) rfl
    obtain ⟨Fs', r', k1, k2⟩ := rl1.focus hd2 hσ2 hF rd (fun _ z => z) (fun _ z => .inl z) (fun _ _ h _ => h) List.nodup_nil (fun a m => by cases m)
    have r2 := r'.push re n2.1 fun a m => ⟨rl1.dz i a (inF a m), rl1.own i a (inF a m), fun j n => by
      by_cases ei : j = i
      · rw [ei, k2] at n
        simp only [List.nil_append, List.mem_append] at n
        rcases n with n | n
        · exact n1.2.2 a n a (List.mem_append_left _ m) rfl
        · exact n2.2.2 a m a n rfl
      · rw [k1 j ei] at n; exact rl1.dj i j a (fun w => ei w.symm) (inF a m) n⟩
    rw [List.set_append_left _ _ (by omega), List.append_assoc, List.append_assoc] at r2
    exact k u H1 Z1 _ d _ (by rw [List.length_set]; exact hl) (by rw [List.map_append, List.map_append]; exact r2) q⟩⟩
end
end VL
set_option maxHeartbeats 2000000
namespace VL
open PySem L2 PyProof.Rows
section
variable {X : Cx} {cs : Cs} {a b : Expr} {pos : Pos} {ta tb : TED}
/-! ### xs.count(k), a list of ints -/
def lcnt_ (ta tb : TED) : TED := fun env Q => ta env fun d => ∃ m, ∃ ns : List Int, d = .lst m (ns.map .int) ∧ tb env fun y => ∃ k, y = .int k ∧ Q (.int (ns.count k : Nat))
end
/-! ### int(text); text.lstrip(signs) -/
end VL
set_option maxHeartbeats 4000000
namespace VL
open PySem L2
/- _law_above(elders, at); calls: ; slots: 0:elders 1:at 2:found -/
def w_L_above : TSD :=
  (sq_ (set_ 2 (lst_ nil_))
  (sq_ (while_ (bl_ (op2 (dEq true) (op2 dIx (v_ 0) (v_ 1)) (un_ dNeg (c_ (.int 1))))) (sq_ (set_ 1 (tTk (op2 dIx (v_ 0) (v_ 1))))
  (app_ 2 (tTk (v_ 1)))))
  (retv_ 2)))
/- _law_cell_at(script, k); calls: ; slots: 0:script 1:k -/
def w_L_cell_at : TSD :=
  (sq_ (ifs_ (bl_ (op2 dLt (v_ 1) (call_ dLen (cons_ (v_ 0) nil_)))) (ret_ (tTk (op2 dIx (v_ 0) (v_ 1)))) nx_)
  (ret_ (c_ (.int 0))))
/- _law_elders(script, many); calls: _law_above, _law_cell_at; slots: 0:script 1:many 2:elders 3:k 4:chain 5:at -/
def w_L_elders_6 (sp0 : SpD) (sp1 : SpD) : TSD :=
  (sq_ (set_ 2 (lst_ (cons_ (un_ dNeg (c_ (.int 1))) nil_)))
  (sq_ (for_ 3 (rng2_ (cons_ (c_ (.int 1)) (cons_ (v_ 1) nil_))) (sq_ (set_ 4 (op2 dAddG (lst_ (cons_ (op2 dSub (v_ 3) (c_ (.int 1))) nil_)) (callD sp0 (cons_ (v_ 2) (cons_ (op2 dSub (v_ 3) (c_ (.int 1))) nil_)))))
  (sq_ (frz_ 4 (set_ 4 (lc_ 5 (it_ (tTk (v_ 4))) (bl_ (op2 dLt (call_ dLen (cons_ (callD sp0 (cons_ (v_ 2) (cons_ (v_ 5) nil_))) nil_)) (c_ (.int 12)))) (tTk (v_ 5)))))
  (app_ 2 (tTk (op2 dIx (v_ 4) (op2 dMod (callD sp1 (cons_ (v_ 0) (cons_ (v_ 3) nil_))) (call_ dLen (cons_ (v_ 4) nil_)))))))))
  (retv_ 2)))
/- _law_kinds(script, elders); calls: _law_cell_at; slots: 0:script 1:elders 2:kinds 3:starts 4:k 5:near 6:at -/
def w_L_kinds_3 (sp0 : SpD) : TSD :=
  (sq_ (set_ 2 (lst_ nil_))
  (sq_ (set_ 3 (lst_ nil_))
  (sq_ (for_ 4 (rng1_ (cons_ (call_ dLen (cons_ (v_ 1) nil_)) nil_)) (sq_ (set_ 5 (lc_ 6 (rng1_ (cons_ (call_ dLen (cons_ (v_ 1) nil_)) nil_)) (bl_ (op2 (dEq false) (op2 dIx (v_ 1) (v_ 6)) (v_ 4))) (tTk (v_ 6))))
  (sq_ (app_ 2 (c_ (.str "leaf")))
  (sq_ (app_ 3 (un_ dNeg (c_ (.int 1))))
  (ifs_ (and_ (bl_ (op2 (dEq true) (v_ 5) (lst_ nil_))) (bl_ (op2 (dEq false) (op2 dMod (op2 dAddG (op2 dFdiv (callD sp0 (cons_ (v_ 0) (cons_ (v_ 4) nil_))) (c_ (.int 13))) (v_ 4)) (c_ (.int 2))) (c_ (.int 0))))) (pset_ 2 (pv_ 2) (v_ 4) (c_ (.str "all"))) (ifs_ (bl_ (op2 (dEq true) (v_ 5) (lst_ nil_))) (sq_ (pset_ 2 (pv_ 2) (v_ 4) (c_ (.str "one")))
  (pset_ 3 (pv_ 3) (v_ 4) (tTk (op2 dIx (v_ 5) (op2 dMod (op2 dFdiv (callD sp0 (cons_ (v_ 0) (cons_ (v_ 4) nil_))) (c_ (.int 26))) (call_ dLen (cons_ (v_ 5) nil_))))))) nx_))))))
  (retm_ .tup [2, 3] (cons_ (v_ 2) (cons_ (v_ 3) nil_))))))
/- _law_names(cell, many); calls: ; slots: 0:cell 1:many 2:size 3:at 4:codes 5:names 6:k 7:code -/
def w_L_names : TSD :=
  (sq_ (set_ 2 (op2 dAddG (c_ (.int 2)) (op2 dMod (v_ 0) (c_ (.int 11)))))
  (sq_ (set_ 3 (op2 dMod (op2 dFdiv (v_ 0) (c_ (.int 11))) (op2 dSub (v_ 2) (c_ (.int 1)))))
  (sq_ (set_ 4 (c_ (.str "abcdefghijklmnopqrstuvwxyz")))
  (sq_ (set_ 5 (lst_ nil_))
  (sq_ (for_ 6 (rng1_ (cons_ (v_ 1) nil_)) (sq_ (set_ 7 (op2 dAddG (op2 dIx (v_ 4) (op2 dMod (v_ 6) (c_ (.int 26)))) (call_ dStr (cons_ (op2 dMod (op2 dAddG (op2 dFdiv (v_ 6) (c_ (.int 26))) (op2 dFdiv (v_ 0) (c_ (.int 121)))) (c_ (.int 10))) nil_))))
  (app_ 5 (op2 dAddG (op2 dAddG (sl_ (c_ (.str "qzvkjwgmxqz")) no_ (po_ (v_ 3))) (v_ 7)) (sl_ (c_ (.str "7z0kjwgm3xq")) no_ (po_ (op2 dSub (op2 dSub (v_ 2) (v_ 3)) (c_ (.int 2)))))))))
  (retv_ 5))))))
/- _law_far(cell); calls: ; slots: 0:cell 1:some -/
def w_L_far_2 : TSD :=
  (sq_ (set_ 1 (lst_ (cons_ (c_ (.int 0)) (cons_ (op2 dSub (op2 dMod (op2 dFdiv (v_ 0) (c_ (.int 4))) (op2 dSub (op2 dMul (c_ (.int 2)) (op2 dPow (c_ (.int 10)) (c_ (.int 30)))) (c_ (.int 1)))) (op2 dSub (op2 dPow (c_ (.int 10)) (c_ (.int 30))) (c_ (.int 1)))) (cons_ (op2 dSub (op2 dPow (c_ (.int 10)) (c_ (.int 30))) (c_ (.int 1))) (cons_ (op2 dSub (c_ (.int 1)) (op2 dPow (c_ (.int 10)) (c_ (.int 30)))) nil_))))))
  (ret_ (tTk (op2 dIx (v_ 1) (op2 dMod (v_ 0) (c_ (.int 4)))))))
/- _law_term(cell, many); calls: _law_far; slots: 0:cell 1:many -/
def w_L_term_3 (sp0 : SpD) : TSD :=
  (ret_ (tup_ (cons_ (op2 dSub (op2 dMod (v_ 0) (op2 dAddG (v_ 1) (c_ (.int 1)))) (c_ (.int 1))) (cons_ (callD sp0 (cons_ (op2 dFdiv (v_ 0) (op2 dAddG (v_ 1) (c_ (.int 1)))) nil_)) nil_))))
/- _law_deed(cell, many, name); calls: _law_term; slots: 0:cell 1:many 2:name 3:way -/
def w_L_deed_2 (sp0 : SpD) : TSD :=
  (sq_ (set_ 3 (op2 dMod (v_ 0) (c_ (.int 3))))
  (sq_ (set_ 0 (op2 dFdiv (v_ 0) (c_ (.int 3))))
  (sq_ (ifs_ (and_ (bl_ (op2 (dEq false) (v_ 3) (c_ (.int 0)))) (bl_ (op2 dGt (v_ 1) (c_ (.int 0))))) (ret_ (tup_ (cons_ (c_ (.str "put")) (cons_ (op2 dMod (v_ 0) (v_ 1)) (cons_ (callD sp0 (cons_ (op2 dFdiv (v_ 0) (v_ 1)) (cons_ (v_ 1) nil_))) nil_))))) nx_)
  (sq_ (ifs_ (bl_ (op2 (dEq false) (v_ 3) (c_ (.int 1)))) (ret_ (tup_ (cons_ (c_ (.str "say")) (cons_ (tTk (v_ 2)) (cons_ (callD sp0 (cons_ (v_ 0) (cons_ (v_ 1) nil_))) nil_))))) nx_)
  (ret_ (tup_ (cons_ (c_ (.str "call")) (cons_ (tTk (v_ 2)) nil_))))))))
/- _law_rows(script, many, names, by); calls: _law_cell_at, _law_deed; slots: 0:script 1:many 2:names 3:by 4:rows 5:k 6:cell 7:j -/
def w_L_rows_3 (sp0 : SpD) (sp1 : SpD) : TSD :=
  (sq_ (set_ 4 (lst_ nil_))
  (sq_ (for_ 5 (rng1_ (cons_ (call_ dLen (cons_ (v_ 2) nil_)) nil_)) (sq_ (set_ 6 (op2 dFdiv (op2 dMod (callD sp0 (cons_ (v_ 0) (cons_ (op2 dAddG (c_ (.int 7)) (v_ 5)) nil_))) (op2 dPow (c_ (.int 10)) (c_ (.int 60)))) (v_ 3)))
  (app_ 4 (call_ dTuple (cons_ (lc_ 7 (rng1_ (cons_ (op2 dMod (v_ 6) (c_ (.int 3))) nil_)) yes_ (callD sp1 (cons_ (op2 dFdiv (v_ 6) (op2 dAddG (c_ (.int 6)) (v_ 7))) (cons_ (v_ 1) (cons_ (op2 dIx (v_ 2) (v_ 5)) nil_))))) nil_)))))
  (retv_ 4)))
/- _law_ask(cell, many, moods); calls: _law_term; slots: 0:cell 1:many 2:moods 3:way 4:one -/
def w_L_ask_3 (sp0 : SpD) : TSD :=
  (sq_ (set_ 3 (op2 dMod (v_ 0) (c_ (.int 6))))
  (sq_ (set_ 0 (op2 dFdiv (v_ 0) (c_ (.int 6))))
  (sq_ (ifs_ (bl_ (op2 dLt (v_ 3) (c_ (.int 2)))) (ret_ (tup_ (cons_ (tTk (op2 dIx (lst_ (cons_ (c_ (.str "open")) (cons_ (c_ (.str "shut")) nil_))) (v_ 3))) (cons_ (op2 dMod (v_ 0) (v_ 2)) nil_)))) nx_)
  (sq_ (set_ 4 (callD sp0 (cons_ (op2 dMod (v_ 0) (op2 dPow (c_ (.int 10)) (c_ (.int 33)))) (cons_ (v_ 1) nil_))))
  (retm_ .tup [4] (cons_ (tTk (op2 dIx (lst_ (cons_ (c_ (.str "<")) (cons_ (c_ (.str "<=")) (cons_ (c_ (.str "=")) (cons_ (c_ (.str "!=")) nil_))))) (op2 dSub (v_ 3) (c_ (.int 2))))) (cons_ (v_ 4) (cons_ (callD sp0 (cons_ (op2 dFdiv (v_ 0) (op2 dPow (c_ (.int 10)) (c_ (.int 33)))) (cons_ (v_ 1) nil_))) nil_))))))))
/- _law_way(script, at, source, many, moods, name); calls: _law_cell_at, _law_ask, _law_deed; slots: 0:script 1:at 2:source 3:many 4:moods 5:name 6:cell 7:asks 8:k 9:deeds 10:target 11:mode -/
def w_L_way_2 (sp0 : SpD) (sp1 : SpD) (sp2 : SpD) : TSD :=
  (sq_ (set_ 6 (op2 dMod (callD sp0 (cons_ (v_ 0) (cons_ (v_ 1) nil_))) (op2 dPow (c_ (.int 10)) (c_ (.int 60)))))
  (sq_ (set_ 7 (lst_ nil_))
  (sq_ (for_ 8 (rng1_ (cons_ (op2 dMod (v_ 6) (c_ (.int 3))) nil_)) (app_ 7 (callD sp1 (cons_ (op2 dMod (callD sp0 (cons_ (v_ 0) (cons_ (op2 dAddG (op2 dAddG (v_ 1) (c_ (.int 1))) (v_ 8)) nil_))) (op2 dPow (c_ (.int 10)) (c_ (.int 64)))) (cons_ (v_ 3) (cons_ (v_ 4) nil_))))))
  (sq_ (set_ 9 (lst_ nil_))
  (sq_ (for_ 8 (rng1_ (cons_ (op2 dMod (op2 dFdiv (v_ 6) (c_ (.int 3))) (c_ (.int 3))) nil_)) (app_ 9 (callD sp2 (cons_ (op2 dMod (callD sp0 (cons_ (v_ 0) (cons_ (op2 dAddG (op2 dAddG (v_ 1) (c_ (.int 2))) (v_ 8)) nil_))) (op2 dPow (c_ (.int 10)) (c_ (.int 60)))) (cons_ (v_ 3) (cons_ (v_ 5) nil_))))))
  (sq_ (set_ 10 (op2 dSub (op2 dMod (op2 dFdiv (v_ 6) (c_ (.int 9))) (op2 dAddG (v_ 4) (c_ (.int 1)))) (c_ (.int 1))))
  (sq_ (set_ 11 (tTk (op2 dIx (lst_ (cons_ (c_ (.str "new")) (cons_ (c_ (.str "near")) (cons_ (c_ (.str "far")) nil_)))) (op2 dMod (op2 dFdiv (op2 dFdiv (v_ 6) (c_ (.int 9))) (op2 dAddG (v_ 4) (c_ (.int 1)))) (c_ (.int 3))))))
  (sq_ (ifs_ (bl_ (op2 (dEq false) (v_ 10) (un_ dNeg (c_ (.int 1))))) (set_ 11 (c_ (.str "new"))) nx_)
  (retm_ .tup [10, 11] (cons_ (tTk (v_ 2)) (cons_ (tTk (v_ 5)) (cons_ (call_ dTuple (cons_ (v_ 7) nil_)) (cons_ (call_ dTuple (cons_ (v_ 9) nil_)) (cons_ (v_ 10) (cons_ (v_ 11) nil_)))))))))))))))
/- _law_parts(script); calls: _law_cell_at, _law_elders, _law_kinds, _law_names, _law_far, _law_rows, _law_way; slots: 0:script 1:shape 2:moods 3:elders 4:both 5:names 6:many 7:ahead 8:boxes 9:k 10:ins 11:outs 12:sources 13:ways -/
def w_L_partsM (sp0 : SpD) (sp1 : SpD) (sp2 : SpD) (sp3 : SpD) (sp4 : SpD) (sp5 : SpD) (sp6 : SpD) : TSD :=
  (sq_ (set_ 0 (sl_ (v_ 0) no_ (po_ (c_ (.int 120)))))
  (sq_ (set_ 1 (op2 dMod (callD sp0 (cons_ (v_ 0) (cons_ (c_ (.int 0)) nil_))) (op2 dPow (c_ (.int 10)) (c_ (.int 9)))))
  (sq_ (set_ 2 (op2 dAddG (c_ (.int 1)) (op2 dMod (v_ 1) (c_ (.int 12)))))
  (sq_ (ifs_ (bl_ (op2 (dEq false) (op2 dMod (op2 dFdiv (v_ 1) (c_ (.int 12))) (c_ (.int 4))) (c_ (.int 1)))) (set_ 2 (op2 dAddG (c_ (.int 1)) (op2 dMod (op2 dFdiv (v_ 1) (c_ (.int 48))) (c_ (.int 45))))) nx_)
  (sq_ (set_ 3 (callD sp1 (cons_ (v_ 0) (cons_ (v_ 2) nil_))))
  (sq_ (set_ 4 (callD sp2 (cons_ (v_ 0) (cons_ (v_ 3) nil_))))
  (sq_ (set_ 5 (callD sp3 (cons_ (op2 dMod (callD sp0 (cons_ (v_ 0) (cons_ (c_ (.int 1)) nil_))) (op2 dPow (c_ (.int 10)) (c_ (.int 9)))) (cons_ (v_ 2) nil_))))
  (sq_ (set_ 6 (op2 dMod (op2 dFdiv (v_ 1) (c_ (.int 3))) (c_ (.int 5))))
  (sq_ (set_ 7 (sl_ (c_ (.str "qzvkjw")) no_ (po_ (op2 dMod (op2 dFdiv (v_ 1) (c_ (.int 7))) (c_ (.int 7))))))
  (sq_ (set_ 8 (lc_ 9 (rng1_ (cons_ (v_ 6) nil_)) yes_ (tup_ (cons_ (op2 dAddG (op2 dAddG (v_ 7) (c_ (.str "b"))) (call_ dStr (cons_ (v_ 9) nil_))) (cons_ (callD sp4 (cons_ (callD sp0 (cons_ (v_ 0) (cons_ (op2 dAddG (c_ (.int 2)) (v_ 9)) nil_))) nil_)) nil_)))))
  (sq_ (set_ 10 (callD sp5 (cons_ (v_ 0) (cons_ (v_ 6) (cons_ (v_ 5) (cons_ (c_ (.int 1)) nil_))))))
  (sq_ (set_ 11 (callD sp5 (cons_ (v_ 0) (cons_ (v_ 6) (cons_ (v_ 5) (cons_ (c_ (.int 3)) nil_))))))
  (sq_ (set_ 12 (call_ dSorted (cons_ (lc_ 9 (rng1_ (cons_ (op2 dMod (op2 dFdiv (v_ 1) (c_ (.int 15))) (c_ (.int 7))) nil_)) yes_ (op2 dMod (op2 dFdiv (callD sp0 (cons_ (v_ 0) (cons_ (op2 dAddG (c_ (.int 20)) (op2 dMul (c_ (.int 4)) (v_ 9))) nil_))) (c_ (.int 7))) (v_ 2))) nil_)))
  (sq_ (set_ 13 (lst_ nil_))
  (sq_ (for_ 9 (rng1_ (cons_ (call_ dLen (cons_ (v_ 12) nil_)) nil_)) (app_ 13 (callD sp6 (cons_ (v_ 0) (cons_ (op2 dAddG (c_ (.int 21)) (op2 dMul (c_ (.int 4)) (v_ 9))) (cons_ (op2 dIx (v_ 12) (v_ 9)) (cons_ (v_ 6) (cons_ (v_ 2) (cons_ (op2 dIx (v_ 5) (op2 dIx (v_ 12) (v_ 9))) nil_)))))))))
  (rete_ (lstx_ (tmpx_ (mvx_ 8 (pv_ 8)) (tmpx_ (mvx_ 5 (pv_ 5)) (tmpx_ (mvx_ 4 (pix_ (pv_ 4) (c_ (.int 0)))) (tmpx_ (mvx_ 3 (pv_ 3)) (tmpx_ (mvx_ 4 (pix_ (pv_ 4) (c_ (.int 1)))) (tmpx_ (mvx_ 10 (pv_ 10)) (tmpx_ (mvx_ 11 (pv_ 11)) (tmpx_ (mvx_ 13 (pv_ 13)) nilx_)))))))))))))))))))))))))
/- Tree.__init__(self, kinds, elders, starts); calls: ; slots: 0:self 1:kinds 2:elders 3:starts -/
def w_Tree_init : TSD :=
  (sq_ (fset_ 0 (pv_ 0) "kinds" (call_ dList (cons_ (v_ 1) nil_)))
  (sq_ (fset_ 0 (pv_ 0) "elders" (call_ dList (cons_ (v_ 2) nil_)))
  (fset_ 0 (pv_ 0) "starts" (call_ dList (cons_ (v_ 3) nil_)))))
/- Chart.__init__(self, boxes, names, tree, ins, outs, ways); calls: Tree; slots: 0:self 1:boxes 2:names 3:tree 4:ins 5:outs 6:ways -/
def w_Chart_init (sp0 : SpM) : TSD :=
  (sq_ (fset_ 0 (pv_ 0) "boxes" (call_ dList (cons_ (v_ 1) nil_)))
  (sq_ (fset_ 0 (pv_ 0) "names" (call_ dList (cons_ (v_ 2) nil_)))
  (sq_ (fset_ 0 (pv_ 0) "tree" (makeD "Tree" sp0 (cons_ (un_ (dFld "kinds") (v_ 3)) (cons_ (un_ (dFld "elders") (v_ 3)) (cons_ (un_ (dFld "starts") (v_ 3)) nil_)))))
  (sq_ (fset_ 0 (pv_ 0) "ins" (call_ dList (cons_ (v_ 4) nil_)))
  (sq_ (fset_ 0 (pv_ 0) "outs" (call_ dList (cons_ (v_ 5) nil_)))
  (fset_ 0 (pv_ 0) "ways" (call_ dList (cons_ (v_ 6) nil_))))))))
/- _law_chart(parts); calls: Tree, Chart; slots: 0:parts 1:tree -/
def w_L_chart_8 (sp0 : SpM) (sp1 : SpM) : TSD :=
  (sq_ (set_ 1 (makeD "Tree" sp0 (cons_ (call_ dList (cons_ (op2 dIx (v_ 0) (c_ (.int 2))) nil_)) (cons_ (call_ dList (cons_ (op2 dIx (v_ 0) (c_ (.int 3))) nil_)) (cons_ (call_ dList (cons_ (op2 dIx (v_ 0) (c_ (.int 4))) nil_)) nil_)))))
  (ret_ (makeD "Chart" sp1 (cons_ (call_ dList (cons_ (op2 dIx (v_ 0) (c_ (.int 0))) nil_)) (cons_ (call_ dList (cons_ (op2 dIx (v_ 0) (c_ (.int 1))) nil_)) (cons_ (v_ 1) (cons_ (call_ dList (cons_ (op2 dIx (v_ 0) (c_ (.int 5))) nil_)) (cons_ (call_ dList (cons_ (op2 dIx (v_ 0) (c_ (.int 6))) nil_)) (cons_ (call_ dList (cons_ (op2 dIx (v_ 0) (c_ (.int 7))) nil_)) nil_)))))))))
/- _law_spoil_tree(parts, cell); calls: ; slots: 0:parts 1:cell 2:many 3:at 4:way 5:k -/
def w_L_spoil_tree : TSD :=
  (sq_ (set_ 2 (call_ dLen (cons_ (op2 dIx (v_ 0) (c_ (.int 1))) nil_)))
  (sq_ (set_ 3 (op2 dMod (op2 dFdiv (v_ 1) (c_ (.int 10))) (v_ 2)))
  (sq_ (set_ 4 (op2 dMod (v_ 1) (c_ (.int 10))))
  (ifs_ (bl_ (op2 (dEq false) (v_ 4) (c_ (.int 0)))) (pset_ 0 (pix_ (pv_ 0) (c_ (.int 3))) (v_ 3) (tTk (v_ 3))) (ifs_ (bl_ (op2 (dEq false) (v_ 4) (c_ (.int 1)))) (pset_ 0 (pix_ (pv_ 0) (c_ (.int 3))) (v_ 3) (op2 dAddG (v_ 3) (c_ (.int 1)))) (ifs_ (bl_ (op2 (dEq false) (v_ 4) (c_ (.int 2)))) (pset_ 0 (pix_ (pv_ 0) (c_ (.int 3))) (v_ 3) (op2 dSub (un_ dNeg (c_ (.int 1))) (call_ dToInt (cons_ (op2 (dEq false) (v_ 3) (c_ (.int 0))) nil_)))) (ifs_ (bl_ (op2 (dEq false) (v_ 4) (c_ (.int 3)))) (pset_ 0 (pix_ (pv_ 0) (c_ (.int 2))) (v_ 3) (tTk (op2 dIx (lst_ (cons_ (c_ (.str "ones")) (cons_ (c_ (.str "")) (cons_ (c_ (.str "One")) (cons_ (c_ (.str "leafs")) nil_))))) (op2 dMod (op2 dFdiv (v_ 1) (c_ (.int 700))) (c_ (.int 4)))))) (ifs_ (bl_ (op2 (dEq false) (v_ 4) (c_ (.int 4)))) (sq_ (pset_ 0 (pix_ (pv_ 0) (c_ (.int 2))) (v_ 3) (tTk (op2 dIx (lst_ (cons_ (c_ (.str "leaf")) (cons_ (c_ (.str "all")) nil_))) (call_ dToInt (cons_ (op2 (dEq false) (op2 dIx (op2 dIx (v_ 0) (c_ (.int 2))) (v_ 3)) (c_ (.str "leaf"))) nil_)))))
  (pset_ 0 (pix_ (pv_ 0) (c_ (.int 4))) (v_ 3) (un_ dNeg (c_ (.int 1))))) (ifs_ (bl_ (op2 (dEq false) (v_ 4) (c_ (.int 5)))) (pset_ 0 (pix_ (pv_ 0) (c_ (.int 4))) (v_ 3) (tTk (op2 dIx (lst_ (cons_ (tTk (op2 dIx (lst_ (cons_ (c_ (.int 0)) (cons_ (tTk (v_ 2)) nil_))) (op2 dMod (op2 dFdiv (v_ 1) (c_ (.int 700))) (c_ (.int 2))))) (cons_ (tTk (op2 dIx (lst_ (cons_ (un_ dNeg (c_ (.int 1))) (cons_ (tTk (v_ 3)) nil_))) (op2 dMod (op2 dFdiv (v_ 1) (c_ (.int 700))) (c_ (.int 2))))) nil_))) (call_ dToInt (cons_ (op2 (dEq false) (op2 dIx (op2 dIx (v_ 0) (c_ (.int 2))) (v_ 3)) (c_ (.str "one"))) nil_))))) (ifs_ (bl_ (op2 (dEq false) (v_ 4) (c_ (.int 6)))) (sq_ (pins_ 0 (pix_ (pv_ 0) (c_ (.int 1))) (v_ 3) (c_ (.str "more")))
  (pset_ 0 (pv_ 0) (c_ (.int 1)) (sl_ (op2 dIx (v_ 0) (c_ (.int 1))) no_ (po_ (op2 dIx (lst_ (cons_ (op2 dAddG (v_ 2) (c_ (.int 1))) (cons_ (op2 dSub (v_ 2) (c_ (.int 1))) nil_))) (op2 dMod (op2 dFdiv (v_ 1) (c_ (.int 700))) (c_ (.int 2)))))))) (ifs_ (bl_ (op2 (dEq false) (v_ 4) (c_ (.int 7)))) (sq_ (papp_ 0 (pix_ (pv_ 0) (op2 dAddG (c_ (.int 3)) (op2 dMod (op2 dFdiv (v_ 1) (c_ (.int 700))) (c_ (.int 2))))) (un_ dNeg (c_ (.int 1))))
  (ifs_ (bl_ (op2 (dEq false) (op2 dMod (op2 dFdiv (v_ 1) (c_ (.int 1400))) (c_ (.int 2))) (c_ (.int 1)))) (pset_ 0 (pv_ 0) (op2 dAddG (c_ (.int 3)) (op2 dMod (op2 dFdiv (v_ 1) (c_ (.int 700))) (c_ (.int 2)))) (sl_ (op2 dIx (v_ 0) (op2 dAddG (c_ (.int 3)) (op2 dMod (op2 dFdiv (v_ 1) (c_ (.int 700))) (c_ (.int 2))))) no_ (po_ (op2 dSub (v_ 2) (c_ (.int 1)))))) nx_)) (ifs_ (bl_ (op2 (dEq false) (v_ 4) (c_ (.int 8)))) (for_ 5 (rng2_ (cons_ (c_ (.int 1)) (cons_ (c_ (.int 7)) nil_))) (pset_ 0 (pv_ 0) (v_ 5) (lst_ nil_))) (sq_ (pset_ 0 (pv_ 0) (c_ (.int 1)) (lc_ 5 (rng1_ (cons_ (c_ (.int 14)) nil_)) yes_ (op2 dAddG (c_ (.str "n")) (call_ dStr (cons_ (v_ 5) nil_)))))
  (sq_ (pset_ 0 (pv_ 0) (c_ (.int 2)) (op2 dAddG (op2 dRep (lst_ (cons_ (c_ (.str "one")) nil_)) (c_ (.int 13))) (lst_ (cons_ (c_ (.str "leaf")) nil_))))
  (sq_ (pset_ 0 (pv_ 0) (c_ (.int 3)) (lc_ 5 (rng1_ (cons_ (c_ (.int 14)) nil_)) yes_ (op2 dSub (v_ 5) (c_ (.int 1)))))
  (pset_ 0 (pv_ 0) (c_ (.int 4)) (op2 dAddG (lc_ 5 (rng1_ (cons_ (c_ (.int 13)) nil_)) yes_ (op2 dAddG (v_ 5) (c_ (.int 1)))) (lst_ (cons_ (un_ dNeg (c_ (.int 1))) nil_)))))))))))))))))))
/- _law_bad_name(cell, name); calls: ; slots: 0:cell 1:name 2:some -/
def w_L_bad_name : TSD :=
  (sq_ (set_ 2 (lst_ (cons_ (c_ (.str "")) (cons_ (c_ (.str "to")) (cons_ (c_ (.str "Far")) (cons_ (c_ (.str "9a")) (cons_ (c_ (.str "a-b")) (cons_ (c_ (.str "leaf")) (cons_ (op2 dAddG (v_ 1) (c_ (.str " "))) (cons_ (op2 dAddG (c_ (.str " ")) (v_ 1)) (cons_ (c_ (.str "abcdefghijklm")) (cons_ (op2 dAddG (v_ 1) (c_ (.str "_"))) (cons_ (c_ (.str "shut")) (cons_ (c_ (.str "a.b")) nil_))))))))))))))
  (ret_ (tTk (op2 dIx (v_ 2) (op2 dMod (v_ 0) (c_ (.int 12)))))))
/- _law_spoil_name(parts, cell); calls: _law_bad_name; slots: 0:parts 1:cell 2:many 3:at -/
def w_L_spoil_name (sp0 : SpD) : TSD :=
  (sq_ (set_ 2 (call_ dLen (cons_ (op2 dIx (v_ 0) (c_ (.int 1))) nil_)))
  (sq_ (set_ 3 (op2 dMod (op2 dFdiv (v_ 1) (c_ (.int 2))) (v_ 2)))
  (sq_ (pset_ 0 (pix_ (pv_ 0) (c_ (.int 1))) (v_ 3) (callD sp0 (cons_ (op2 dFdiv (v_ 1) (c_ (.int 100))) (cons_ (op2 dIx (op2 dIx (v_ 0) (c_ (.int 1))) (v_ 3)) nil_))))
  (ifs_ (and_ (bl_ (op2 (dEq false) (op2 dMod (v_ 1) (c_ (.int 2))) (c_ (.int 1)))) (bl_ (op2 dGt (v_ 2) (c_ (.int 1))))) (pset_ 0 (pix_ (pv_ 0) (c_ (.int 1))) (v_ 3) (tTk (op2 dIx (op2 dIx (v_ 0) (c_ (.int 1))) (op2 dMod (op2 dAddG (op2 dAddG (v_ 3) (c_ (.int 1))) (op2 dMod (op2 dFdiv (v_ 1) (c_ (.int 100))) (op2 dSub (v_ 2) (c_ (.int 1))))) (v_ 2))))) nx_))))
/- _law_spoil_box(parts, cell); calls: _law_bad_name; slots: 0:parts 1:cell 2:boxes 3:at 4:name 5:way -/
def w_L_spoil_box (sp0 : SpD) : TSD :=
  (alias_ 2 0 0 (pix_ (pv_ 0) (c_ (.int 0))) (sq_ (ifs_ (bl_ (op2 (dEq false) (v_ 2) (lst_ nil_))) (papp_ 2 (pv_ 2) (tup_ (cons_ (c_ (.str "w0")) (cons_ (c_ (.int 5)) nil_)))) nx_)
  (sq_ (set_ 3 (op2 dMod (op2 dFdiv (v_ 1) (c_ (.int 4))) (call_ dLen (cons_ (v_ 2) nil_))))
  (sq_ (set_ 4 (tTk (op2 dIx (op2 dIx (v_ 2) (v_ 3)) (c_ (.int 0)))))
  (sq_ (set_ 5 (op2 dMod (v_ 1) (c_ (.int 4))))
  (ifs_ (bl_ (op2 (dEq false) (v_ 5) (c_ (.int 0)))) (pset_ 2 (pv_ 2) (v_ 3) (tup_ (cons_ (callD sp0 (cons_ (op2 dFdiv (v_ 1) (c_ (.int 40))) (cons_ (v_ 4) nil_))) (cons_ (tTk (op2 dIx (op2 dIx (v_ 2) (v_ 3)) (c_ (.int 1)))) nil_)))) (ifs_ (bl_ (op2 (dEq false) (v_ 5) (c_ (.int 1)))) (pins_ 2 (pv_ 2) (v_ 3) (tup_ (cons_ (tTk (v_ 4)) (cons_ (op2 dMod (op2 dFdiv (v_ 1) (c_ (.int 40))) (c_ (.int 7))) nil_)))) (ifs_ (bl_ (op2 (dEq false) (v_ 5) (c_ (.int 2)))) (pset_ 2 (pv_ 2) (v_ 3) (tup_ (cons_ (tTk (v_ 4)) (cons_ (op2 dAddG (op2 dPow (c_ (.int 10)) (c_ (.int 30))) (op2 dMod (op2 dFdiv (v_ 1) (c_ (.int 40))) (c_ (.int 5)))) nil_)))) (pset_ 2 (pv_ 2) (v_ 3) (tup_ (cons_ (tTk (v_ 4)) (cons_ (op2 dSub (op2 dSub (c_ (.int 0)) (op2 dPow (c_ (.int 10)) (c_ (.int 30)))) (op2 dMod (op2 dFdiv (v_ 1) (c_ (.int 40))) (c_ (.int 5)))) nil_))))))))))))
/- _law_bad_term(cell, many); calls: ; slots: 0:cell 1:many 2:more 3:box -/
def w_L_bad_term : TSD :=
  (sq_ (set_ 2 (tTk (op2 dIx (lst_ (cons_ (c_ (.int 0)) (cons_ (op2 dPow (c_ (.int 10)) (c_ (.int 30))) (cons_ (op2 dSub (c_ (.int 0)) (op2 dPow (c_ (.int 10)) (c_ (.int 30)))) (cons_ (op2 dPow (c_ (.int 10)) (c_ (.int 31))) nil_))))) (op2 dMod (op2 dFdiv (v_ 0) (c_ (.int 4))) (c_ (.int 4))))))
  (sq_ (set_ 3 (tTk (op2 dIx (lst_ (cons_ (tTk (v_ 1)) (cons_ (un_ dNeg (c_ (.int 2))) (cons_ (op2 dAddG (v_ 1) (c_ (.int 3))) nil_)))) (op2 dMod (op2 dFdiv (v_ 0) (c_ (.int 16))) (c_ (.int 3))))))
  (sq_ (ifs_ (bl_ (op2 (dEq true) (v_ 2) (c_ (.int 0)))) (set_ 3 (op2 dSub (op2 dMod (op2 dFdiv (v_ 0) (c_ (.int 16))) (op2 dAddG (v_ 1) (c_ (.int 1)))) (c_ (.int 1)))) nx_)
  (retm_ .tup [3, 2] (cons_ (v_ 3) (cons_ (v_ 2) nil_))))))
/- _law_bad_deed(cell, many); calls: _law_bad_term, _law_bad_name; slots: 0:cell 1:many 2:way -/
def w_L_bad_deed (sp0 : SpD) (sp1 : SpD) : TSD :=
  (sq_ (set_ 2 (op2 dMod (v_ 0) (c_ (.int 6))))
  (sq_ (set_ 0 (op2 dFdiv (v_ 0) (c_ (.int 6))))
  (sq_ (ifs_ (bl_ (op2 (dEq false) (v_ 2) (c_ (.int 5)))) (ret_ (tup_ (cons_ (tTk (op2 dIx (lst_ (cons_ (c_ (.str "tell")) (cons_ (c_ (.str "")) (cons_ (c_ (.str "Say")) (cons_ (c_ (.str "out")) (cons_ (c_ (.str "puts")) nil_)))))) (op2 dMod (v_ 0) (c_ (.int 5))))) (cons_ (c_ (.str "word")) (cons_ (tup_ (cons_ (un_ dNeg (c_ (.int 1))) (cons_ (c_ (.int 0)) nil_))) nil_))))) nx_)
  (sq_ (ifs_ (bl_ (op2 (dEq false) (v_ 2) (c_ (.int 0)))) (ret_ (tup_ (cons_ (c_ (.str "put")) (cons_ (tTk (op2 dIx (lst_ (cons_ (tTk (v_ 1)) (cons_ (un_ dNeg (c_ (.int 1))) (cons_ (op2 dAddG (v_ 1) (c_ (.int 2))) nil_)))) (op2 dMod (v_ 0) (c_ (.int 3))))) (cons_ (tup_ (cons_ (un_ dNeg (c_ (.int 1))) (cons_ (c_ (.int 4)) nil_))) nil_))))) nx_)
  (sq_ (ifs_ (and_ (bl_ (op2 (dEq false) (v_ 2) (c_ (.int 1)))) (bl_ (op2 dGt (v_ 1) (c_ (.int 0))))) (ret_ (tup_ (cons_ (c_ (.str "put")) (cons_ (op2 dMod (v_ 0) (v_ 1)) (cons_ (callD sp0 (cons_ (op2 dFdiv (v_ 0) (v_ 1)) (cons_ (v_ 1) nil_))) nil_))))) nx_)
  (sq_ (ifs_ (bl_ (op2 (dEq false) (v_ 2) (c_ (.int 2)))) (ret_ (tup_ (cons_ (c_ (.str "call")) (cons_ (callD sp1 (cons_ (v_ 0) (cons_ (c_ (.str "go")) nil_))) nil_)))) nx_)
  (sq_ (ifs_ (bl_ (op2 (dEq false) (v_ 2) (c_ (.int 3)))) (ret_ (tup_ (cons_ (c_ (.str "say")) (cons_ (callD sp1 (cons_ (v_ 0) (cons_ (c_ (.str "go")) nil_))) (cons_ (tup_ (cons_ (un_ dNeg (c_ (.int 1))) (cons_ (c_ (.int 0)) nil_))) nil_))))) nx_)
  (ret_ (tup_ (cons_ (c_ (.str "say")) (cons_ (c_ (.str "word")) (cons_ (callD sp0 (cons_ (v_ 0) (cons_ (v_ 1) nil_))) nil_))))))))))))
/- _law_put_in(row, cell, thing); calls: ; slots: 0:row 1:cell 2:thing -/
def w_L_put_in : TSD :=
  (sq_ (set_ 0 (call_ dList (cons_ (v_ 0) nil_)))
  (sq_ (pins_ 0 (pv_ 0) (op2 dMod (v_ 1) (op2 dAddG (call_ dLen (cons_ (v_ 0) nil_)) (c_ (.int 1)))) (tTk (v_ 2)))
  (ret_ (call_ dTuple (cons_ (v_ 0) nil_)))))
/- _law_spoil_deed(parts, cell); calls: _law_bad_deed, _law_put_in; slots: 0:parts 1:cell 2:deed 3:way 4:at 5:source -/
def w_L_spoil_deed (sp0 : SpD) (sp1 : SpD) : TSD :=
  (sq_ (set_ 2 (callD sp0 (cons_ (op2 dFdiv (v_ 1) (c_ (.int 1000))) (cons_ (call_ dLen (cons_ (op2 dIx (v_ 0) (c_ (.int 0))) nil_)) nil_))))
  (sq_ (set_ 3 (op2 dMod (v_ 1) (c_ (.int 4))))
  (sq_ (set_ 4 (op2 dMod (op2 dFdiv (v_ 1) (c_ (.int 4))) (call_ dLen (cons_ (op2 dIx (v_ 0) (c_ (.int 5))) nil_))))
  (ifs_ (bl_ (op2 dLt (v_ 3) (c_ (.int 2)))) (pset_ 0 (pix_ (pv_ 0) (op2 dAddG (c_ (.int 5)) (v_ 3))) (v_ 4) (callD sp1 (cons_ (op2 dIx (op2 dIx (v_ 0) (op2 dAddG (c_ (.int 5)) (v_ 3))) (v_ 4)) (cons_ (op2 dFdiv (v_ 1) (c_ (.int 300))) (cons_ (v_ 2) nil_))))) (ifs_ (bl_ (op2 (dEq false) (v_ 3) (c_ (.int 2)))) (sq_ (papp_ 0 (pix_ (pv_ 0) (op2 dAddG (c_ (.int 5)) (op2 dMod (op2 dFdiv (v_ 1) (c_ (.int 4))) (c_ (.int 2))))) (tup_ nil_))
  (ifs_ (bl_ (op2 (dEq false) (op2 dMod (op2 dFdiv (v_ 1) (c_ (.int 8))) (c_ (.int 2))) (c_ (.int 1)))) (pset_ 0 (pv_ 0) (op2 dAddG (c_ (.int 5)) (op2 dMod (op2 dFdiv (v_ 1) (c_ (.int 4))) (c_ (.int 2)))) (sl_ (op2 dIx (v_ 0) (op2 dAddG (c_ (.int 5)) (op2 dMod (op2 dFdiv (v_ 1) (c_ (.int 4))) (c_ (.int 2))))) no_ (po_ (un_ dNeg (c_ (.int 2)))))) nx_)) (sq_ (set_ 5 (c_ (.int 0)))
  (sq_ (ifs_ (bl_ (op2 (dEq true) (op2 dIx (v_ 0) (c_ (.int 7))) (lst_ nil_))) (set_ 5 (tTk (op2 dIx (op2 dIx (op2 dIx (v_ 0) (c_ (.int 7))) (un_ dNeg (c_ (.int 1)))) (c_ (.int 0))))) nx_)
  (papp_ 0 (pix_ (pv_ 0) (c_ (.int 7))) (tup_ (cons_ (tTk (v_ 5)) (cons_ (c_ (.str "go")) (cons_ (tup_ nil_) (cons_ (tup_ (cons_ (tup_ (cons_ (c_ (.str "call")) (cons_ (c_ (.str "go")) nil_))) (cons_ (tTk (v_ 2)) nil_))) (cons_ (un_ dNeg (c_ (.int 1))) (cons_ (c_ (.str "new")) nil_)))))))))))))))
/- _law_bad_ask(cell, many, moods); calls: _law_bad_term; slots: 0:cell 1:many 2:moods 3:way -/
def w_L_bad_ask (sp0 : SpD) : TSD :=
  (sq_ (set_ 3 (op2 dMod (v_ 0) (c_ (.int 4))))
  (sq_ (set_ 0 (op2 dFdiv (v_ 0) (c_ (.int 4))))
  (sq_ (ifs_ (bl_ (op2 (dEq false) (v_ 3) (c_ (.int 0)))) (ret_ (tup_ (cons_ (tTk (op2 dIx (lst_ (cons_ (c_ (.str "open")) (cons_ (c_ (.str "shut")) nil_))) (op2 dMod (v_ 0) (c_ (.int 2))))) (cons_ (tTk (op2 dIx (lst_ (cons_ (tTk (v_ 2)) (cons_ (un_ dNeg (c_ (.int 1))) nil_))) (op2 dMod (op2 dFdiv (v_ 0) (c_ (.int 2))) (c_ (.int 2))))) nil_)))) nx_)
  (sq_ (ifs_ (bl_ (op2 (dEq false) (v_ 3) (c_ (.int 1)))) (ret_ (tup_ (cons_ (tTk (op2 dIx (lst_ (cons_ (c_ (.str "<>")) (cons_ (c_ (.str "")) (cons_ (c_ (.str ">")) (cons_ (c_ (.str "==")) nil_))))) (op2 dMod (v_ 0) (c_ (.int 4))))) (cons_ (tup_ (cons_ (un_ dNeg (c_ (.int 1))) (cons_ (c_ (.int 1)) nil_))) (cons_ (tup_ (cons_ (un_ dNeg (c_ (.int 1))) (cons_ (c_ (.int 2)) nil_))) nil_))))) nx_)
  (sq_ (ifs_ (bl_ (op2 (dEq false) (v_ 3) (c_ (.int 2)))) (ret_ (tup_ (cons_ (c_ (.str "<=")) (cons_ (callD sp0 (cons_ (v_ 0) (cons_ (v_ 1) nil_))) (cons_ (tup_ (cons_ (un_ dNeg (c_ (.int 1))) (cons_ (c_ (.int 0)) nil_))) nil_))))) nx_)
  (ret_ (tup_ (cons_ (c_ (.str "!=")) (cons_ (tup_ (cons_ (un_ dNeg (c_ (.int 1))) (cons_ (c_ (.int 0)) nil_))) (cons_ (callD sp0 (cons_ (v_ 0) (cons_ (v_ 1) nil_))) nil_))))))))))
/- _law_spoil_way(parts, cell); calls: _law_bad_name, _law_put_in, _law_bad_ask; slots: 0:parts 1:cell 2:moods 3:ways 4:at 5:way 6:kind -/
def w_L_spoil_way (sp0 : SpD) (sp1 : SpD) (sp2 : SpD) : TSD :=
  (sq_ (set_ 2 (call_ dLen (cons_ (op2 dIx (v_ 0) (c_ (.int 1))) nil_)))
  (sq_ (ifs_ (bl_ (op2 (dEq false) (op2 dIx (v_ 0) (c_ (.int 7))) (lst_ nil_))) (papp_ 0 (pix_ (pv_ 0) (c_ (.int 7))) (tup_ (cons_ (c_ (.int 0)) (cons_ (c_ (.str "go")) (cons_ (tup_ nil_) (cons_ (tup_ nil_) (cons_ (c_ (.int 0)) (cons_ (c_ (.str "new")) nil_)))))))) nx_)
  (alias_ 3 0 7 (pix_ (pv_ 0) (c_ (.int 7))) (sq_ (set_ 4 (op2 dMod (op2 dFdiv (v_ 1) (c_ (.int 9))) (call_ dLen (cons_ (v_ 3) nil_))))
  (sq_ (set_ 5 (call_ dList (cons_ (op2 dIx (v_ 3) (v_ 4)) nil_)))
  (sq_ (set_ 6 (op2 dMod (v_ 1) (c_ (.int 9))))
  (sq_ (set_ 1 (op2 dFdiv (v_ 1) (c_ (.int 1000))))
  (sq_ (ifs_ (bl_ (op2 dLt (v_ 6) (c_ (.int 3)))) (pset_ 5 (pv_ 5) (c_ (.int 0)) (tTk (op2 dIx (lst_ (cons_ (un_ dNeg (c_ (.int 1))) (cons_ (tTk (v_ 2)) (cons_ (op2 dAddG (v_ 2) (c_ (.int 1))) nil_)))) (v_ 6)))) (ifs_ (bl_ (op2 (dEq false) (v_ 6) (c_ (.int 3)))) (pset_ 5 (pv_ 5) (c_ (.int 1)) (callD sp0 (cons_ (v_ 1) (cons_ (c_ (.str "go")) nil_)))) (ifs_ (bl_ (op2 (dEq false) (v_ 6) (c_ (.int 4)))) (pset_ 5 (pv_ 5) (c_ (.int 4)) (tTk (op2 dIx (lst_ (cons_ (tTk (v_ 2)) (cons_ (un_ dNeg (c_ (.int 2))) nil_))) (op2 dMod (v_ 1) (c_ (.int 2)))))) (ifs_ (bl_ (op2 (dEq false) (v_ 6) (c_ (.int 5)))) (pset_ 5 (pv_ 5) (c_ (.int 5)) (tTk (op2 dIx (lst_ (cons_ (c_ (.str "")) (cons_ (c_ (.str "fresh")) (cons_ (c_ (.str "New")) nil_)))) (op2 dMod (v_ 1) (c_ (.int 3)))))) (ifs_ (bl_ (op2 (dEq false) (v_ 6) (c_ (.int 6)))) (sq_ (pset_ 5 (pv_ 5) (c_ (.int 4)) (un_ dNeg (c_ (.int 1))))
  (pset_ 5 (pv_ 5) (c_ (.int 5)) (tTk (op2 dIx (lst_ (cons_ (c_ (.str "near")) (cons_ (c_ (.str "far")) nil_))) (op2 dMod (v_ 1) (c_ (.int 2))))))) (ifs_ (bl_ (op2 (dEq false) (v_ 6) (c_ (.int 7)))) (pset_ 5 (pv_ 5) (c_ (.int 2)) (callD sp1 (cons_ (op2 dIx (v_ 5) (c_ (.int 2))) (cons_ (v_ 1) (cons_ (callD sp2 (cons_ (op2 dFdiv (v_ 1) (c_ (.int 4))) (cons_ (call_ dLen (cons_ (op2 dIx (v_ 0) (c_ (.int 0))) nil_)) (cons_ (v_ 2) nil_)))) nil_))))) (sq_ (pset_ 5 (pv_ 5) (c_ (.int 0)) (c_ (.int 1)))
  (papp_ 3 (pv_ 3) (tup_ (cons_ (c_ (.int 0)) (cons_ (c_ (.str "go")) (cons_ (tup_ nil_) (cons_ (tup_ nil_) (cons_ (un_ dNeg (c_ (.int 1))) (cons_ (c_ (.str "new")) nil_)))))))))))))))
  (pset_ 3 (pv_ 3) (v_ 4) (call_ dTuple (cons_ (v_ 5) nil_)))))))))))
/- _law_spoil(parts, which, cell); calls: _law_spoil_tree, _law_spoil_name, _law_spoil_box, _law_spoil_deed, _law_spoil_way; slots: 0:parts 1:which 2:cell -/
def w_L_spoil_2 (sp0 : SpM) (sp1 : SpM) (sp2 : SpM) (sp3 : SpM) (sp4 : SpM) : TSD :=
  (ifs_ (bl_ (op2 (dEq false) (v_ 1) (c_ (.int 0)))) (exe_ (callE_ [some 0, none] [0] (noX sp0) (iox_ 0 (tmpx_ (pt_ (tTk (v_ 2))) nilx_)))) (ifs_ (bl_ (op2 (dEq false) (v_ 1) (c_ (.int 1)))) (exe_ (callE_ [some 0, none] [0] (noX sp1) (iox_ 0 (tmpx_ (pt_ (tTk (v_ 2))) nilx_)))) (ifs_ (bl_ (op2 (dEq false) (v_ 1) (c_ (.int 2)))) (exe_ (callE_ [some 0, none] [0] (noX sp2) (iox_ 0 (tmpx_ (pt_ (tTk (v_ 2))) nilx_)))) (ifs_ (bl_ (op2 (dEq false) (v_ 1) (c_ (.int 3)))) (exe_ (callE_ [some 0, none] [0] (noX sp3) (iox_ 0 (tmpx_ (pt_ (tTk (v_ 2))) nilx_)))) (exe_ (callE_ [some 0, none] [0] (noX sp4) (iox_ 0 (tmpx_ (pt_ (tTk (v_ 2))) nilx_))))))))
/- above(tree, mood); calls: ; slots: 0:tree 1:mood 2:found 3:at -/
def w_aboveG : TSD :=
  (sq_ (set_ 2 (lst_ nil_))
  (sq_ (set_ 3 (tTk (op2 dIx (un_ (dFld "elders") (v_ 0)) (v_ 1))))
  (sq_ (while_ (bl_ (op2 (dEq true) (v_ 3) (un_ dNeg (c_ (.int 1))))) (sq_ (app_ 2 (tTk (v_ 3)))
  (set_ 3 (tTk (op2 dIx (un_ (dFld "elders") (v_ 0)) (v_ 3))))))
  (retv_ 2))))
/- depth(tree, mood); calls: above; slots: 0:tree 1:mood -/
def w_depthG (sp0 : SpD) : TSD :=
  (ret_ (call_ dLen (cons_ (callD sp0 (cons_ (v_ 0) (cons_ (v_ 1) nil_))) nil_)))
/- look_at_numbers(chart); calls: above, depth; slots: 0:chart 1:tree 2:many 3:mood -/
def w_look_at_numbersX (sp0 : SpD) (sp1 : SpD) : TSD :=
  (sq_ (set_ 1 (tTk (un_ (dFld "tree") (v_ 0))))
  (sq_ (set_ 2 (call_ dLen (cons_ (un_ (dFld "kinds") (v_ 1)) nil_)))
  (sq_ (ifs_ (or_ (bl_ (op2 (dEq false) (v_ 2) (c_ (.int 0)))) (or_ (bl_ (op2 (dEq true) (call_ dLen (cons_ (un_ (dFld "elders") (v_ 1)) nil_)) (v_ 2))) (or_ (bl_ (op2 (dEq true) (call_ dLen (cons_ (un_ (dFld "starts") (v_ 1)) nil_)) (v_ 2))) (bl_ (op2 (dEq true) (call_ dLen (cons_ (un_ (dFld "names") (v_ 0)) nil_)) (v_ 2)))))) (raise_ "BadTree") nx_)
  (sq_ (ifs_ (bl_ (op2 (dEq true) (op2 dIx (un_ (dFld "elders") (v_ 1)) (c_ (.int 0))) (un_ dNeg (c_ (.int 1))))) (raise_ "BadTree") nx_)
  (for_ 3 (rng2_ (cons_ (c_ (.int 1)) (cons_ (v_ 2) nil_))) (sq_ (ifs_ (and_ (bl_ (op2 (dEq true) (op2 dIx (un_ (dFld "elders") (v_ 1)) (v_ 3)) (op2 dSub (v_ 3) (c_ (.int 1))))) (bl_ (op2 (dIn true) (op2 dIx (un_ (dFld "elders") (v_ 1)) (v_ 3)) (callD sp0 (cons_ (v_ 1) (cons_ (op2 dSub (v_ 3) (c_ (.int 1))) nil_)))))) (raise_ "BadTree") nx_)
  (ifs_ (bl_ (op2 dGt (callD sp1 (cons_ (v_ 1) (cons_ (v_ 3) nil_))) (c_ (.int 12)))) (raise_ "BadTree") nx_)))))))
/- inner(tree, mood); calls: ; slots: 0:tree 1:mood 2:k -/
def w_inner : TSD :=
  (ret_ (lc_ 2 (rng1_ (cons_ (call_ dLen (cons_ (un_ (dFld "elders") (v_ 0)) nil_)) nil_)) (bl_ (op2 (dEq false) (op2 dIx (un_ (dFld "elders") (v_ 0)) (v_ 2)) (v_ 1))) (tTk (v_ 2))))
/- look_at_kinds(tree); calls: inner; slots: 0:tree 1:mood 2:near 3:kind 4:start -/
def w_look_at_kindsX (sp0 : SpD) : TSD :=
  (for_ 1 (rng1_ (cons_ (call_ dLen (cons_ (un_ (dFld "kinds") (v_ 0)) nil_)) nil_)) (sq_ (set_ 2 (callD sp0 (cons_ (v_ 0) (cons_ (v_ 1) nil_))))
  (sq_ (set_ 3 (tTk (op2 dIx (un_ (dFld "kinds") (v_ 0)) (v_ 1))))
  (sq_ (set_ 4 (tTk (op2 dIx (un_ (dFld "starts") (v_ 0)) (v_ 1))))
  (sq_ (ifs_ (bl_ (op2 (dIn true) (v_ 3) (tup_ (cons_ (c_ (.str "leaf")) (cons_ (c_ (.str "one")) (cons_ (c_ (.str "all")) nil_)))))) (raise_ "BadTree") nx_)
  (sq_ (ifs_ (bl_ (op2 (dEq true) (op2 (dEq false) (v_ 3) (c_ (.str "leaf"))) (op2 (dEq false) (v_ 2) (lst_ nil_)))) (raise_ "BadTree") nx_)
  (ifs_ (or_ (and_ (bl_ (op2 (dEq false) (v_ 3) (c_ (.str "one")))) (bl_ (op2 (dIn true) (v_ 4) (v_ 2)))) (and_ (bl_ (op2 (dEq true) (v_ 3) (c_ (.str "one")))) (bl_ (op2 (dEq true) (v_ 4) (un_ dNeg (c_ (.int 1))))))) (raise_ "BadTree") nx_)))))))
/- is_name(text); calls: ; slots: 0:text 1:sign -/
def w_is_name : TSD :=
  (sq_ (ifs_ (or_ (bl_ (op2 (dEq false) (v_ 0) (c_ (.str "")))) (or_ (bl_ (op2 dGt (call_ dLen (cons_ (v_ 0) nil_)) (c_ (.int 12)))) (bl_ (op2 (dIn false) (v_ 0) (c_ (.tup ((["all", "and", "box", "call", "do", "far", "if", "in", "leaf", "near", "on", "one", "open", "out", "put", "say", "shut", "then", "to"] : List Str).map .str))))))) (ret_ (c_ (.bl false))) nx_)
  (sq_ (ifs_ (bl_ (op2 (dIn true) (op2 dIx (v_ 0) (c_ (.int 0))) (c_ (.str "abcdefghijklmnopqrstuvwxyz")))) (ret_ (c_ (.bl false))) nx_)
  (sq_ (for_ 1 (it_ (tTk (v_ 0))) (ifs_ (and_ (bl_ (op2 (dIn true) (v_ 1) (c_ (.str "abcdefghijklmnopqrstuvwxyz")))) (bl_ (op2 (dIn true) (v_ 1) (c_ (.str "0123456789"))))) (ret_ (c_ (.bl false))) nx_))
  (ret_ (c_ (.bl true))))))
/- look_at_names(chart); calls: is_name; slots: 0:chart 1:met 2:name -/
def w_look_at_namesX (sp0 : SpD) : TSD :=
  (sq_ (set_ 1 dnew_)
  (for_ 2 (it_ (tTk (un_ (dFld "names") (v_ 0)))) (sq_ (ifs_ (or_ (not_ (bl_ (callD sp0 (cons_ (v_ 2) nil_)))) (bl_ (op2 (dInK false) (v_ 2) (v_ 1)))) (raise_ "BadName") nx_)
  (pdset_ 1 (pv_ 1) (v_ 2) (c_ (.bl true))))))
/- in_bounds(number); calls: ; slots: 0:number -/
def w_in_boundsG : TSD :=
  (ret_ (tTk (andv_ (op2 dLt (un_ dNeg (op2 dPow (c_ (.int 10)) (c_ (.int 30)))) (v_ 0)) (op2 dLt (v_ 0) (op2 dPow (c_ (.int 10)) (c_ (.int 30)))))))
/- look_at_boxes(chart); calls: is_name, in_bounds; slots: 0:chart 1:met 2:box -/
def w_look_at_boxesX (sp0 : SpD) (sp1 : SpD) : TSD :=
  (sq_ (set_ 1 dnew_)
  (for_ 2 (it_ (tTk (un_ (dFld "boxes") (v_ 0)))) (sq_ (ifs_ (or_ (not_ (bl_ (callD sp0 (cons_ (op2 dIx (v_ 2) (c_ (.int 0))) nil_)))) (or_ (bl_ (op2 (dInK false) (op2 dIx (v_ 2) (c_ (.int 0))) (v_ 1))) (not_ (bl_ (callD sp1 (cons_ (op2 dIx (v_ 2) (c_ (.int 1))) nil_)))))) (raise_ "BadBox") nx_)
  (pdset_ 1 (pv_ 1) (op2 dIx (v_ 2) (c_ (.int 0))) (c_ (.bl true))))))
/- right_term(chart, term); calls: in_bounds; slots: 0:chart 1:term -/
def w_right_termG (sp0 : SpD) : TSD :=
  (ret_ (tTk (andv_ (op2 dLe (un_ dNeg (c_ (.int 1))) (op2 dIx (v_ 1) (c_ (.int 0)))) (andv_ (op2 dLt (op2 dIx (v_ 1) (c_ (.int 0))) (call_ dLen (cons_ (un_ (dFld "boxes") (v_ 0)) nil_))) (callD sp0 (cons_ (op2 dIx (v_ 1) (c_ (.int 1))) nil_))))))
/- right_deed(chart, deed); calls: right_term, is_name; slots: 0:chart 1:deed -/
def w_right_deedG (sp0 : SpD) (sp1 : SpD) : TSD :=
  (sq_ (ifs_ (bl_ (op2 (dEq false) (op2 dIx (v_ 1) (c_ (.int 0))) (c_ (.str "put")))) (ret_ (tTk (andv_ (op2 dLe (c_ (.int 0)) (op2 dIx (v_ 1) (c_ (.int 1)))) (andv_ (op2 dLt (op2 dIx (v_ 1) (c_ (.int 1))) (call_ dLen (cons_ (un_ (dFld "boxes") (v_ 0)) nil_))) (callD sp0 (cons_ (v_ 0) (cons_ (op2 dIx (v_ 1) (c_ (.int 2))) nil_))))))) nx_)
  (sq_ (ifs_ (bl_ (op2 (dEq false) (op2 dIx (v_ 1) (c_ (.int 0))) (c_ (.str "call")))) (ret_ (callD sp1 (cons_ (op2 dIx (v_ 1) (c_ (.int 1))) nil_))) nx_)
  (ret_ (tTk (andv_ (op2 (dEq false) (op2 dIx (v_ 1) (c_ (.int 0))) (c_ (.str "say"))) (andv_ (callD sp1 (cons_ (op2 dIx (v_ 1) (c_ (.int 1))) nil_)) (callD sp0 (cons_ (v_ 0) (cons_ (op2 dIx (v_ 1) (c_ (.int 2))) nil_)))))))))
/- look_at_deeds(chart); calls: right_deed; slots: 0:chart 1:many 2:rows 3:way 4:deeds 5:deed -/
def w_look_at_deedsX (sp0 : SpD) : TSD :=
  (sq_ (set_ 1 (call_ dLen (cons_ (un_ (dFld "names") (v_ 0)) nil_)))
  (sq_ (ifs_ (or_ (bl_ (op2 (dEq true) (call_ dLen (cons_ (un_ (dFld "ins") (v_ 0)) nil_)) (v_ 1))) (bl_ (op2 (dEq true) (call_ dLen (cons_ (un_ (dFld "outs") (v_ 0)) nil_)) (v_ 1)))) (raise_ "BadDeed") nx_)
  (sq_ (set_ 2 (op2 dAddG (op2 dAddG (un_ (dFld "ins") (v_ 0)) (un_ (dFld "outs") (v_ 0))) (lc_ 3 (it_ (tTk (un_ (dFld "ways") (v_ 0)))) yes_ (tTk (op2 dIx (v_ 3) (c_ (.int 3)))))))
  (frz_ 2 (for_ 4 (it_ (tTk (v_ 2))) (frz_ 4 (for_ 5 (it_ (tTk (v_ 4))) (ifs_ (not_ (bl_ (callD sp0 (cons_ (v_ 0) (cons_ (v_ 5) nil_))))) (raise_ "BadDeed") nx_))))))))
/- right_ask(chart, ask); calls: right_term; slots: 0:chart 1:ask -/
def w_right_askG (sp0 : SpD) : TSD :=
  (sq_ (ifs_ (or_ (bl_ (op2 (dEq false) (op2 dIx (v_ 1) (c_ (.int 0))) (c_ (.str "open")))) (bl_ (op2 (dEq false) (op2 dIx (v_ 1) (c_ (.int 0))) (c_ (.str "shut"))))) (ret_ (tTk (andv_ (op2 dLe (c_ (.int 0)) (op2 dIx (v_ 1) (c_ (.int 1)))) (op2 dLt (op2 dIx (v_ 1) (c_ (.int 1))) (call_ dLen (cons_ (un_ (dFld "names") (v_ 0)) nil_)))))) nx_)
  (ret_ (tTk (andv_ (op2 (dIn false) (op2 dIx (v_ 1) (c_ (.int 0))) (tup_ (cons_ (c_ (.str "<")) (cons_ (c_ (.str "<=")) (cons_ (c_ (.str "=")) (cons_ (c_ (.str "!=")) nil_)))))) (andv_ (callD sp0 (cons_ (v_ 0) (cons_ (op2 dIx (v_ 1) (c_ (.int 1))) nil_))) (callD sp0 (cons_ (v_ 0) (cons_ (op2 dIx (v_ 1) (c_ (.int 2))) nil_))))))))
/- look_at_ways(chart); calls: is_name, right_ask; slots: 0:chart 1:many 2:last 3:way 4:ask -/
def w_look_at_waysX (sp0 : SpD) (sp1 : SpD) : TSD :=
  (sq_ (set_ 1 (call_ dLen (cons_ (un_ (dFld "names") (v_ 0)) nil_)))
  (sq_ (set_ 2 (c_ (.int 0)))
  (for_ 3 (it_ (tTk (un_ (dFld "ways") (v_ 0)))) (sq_ (ifs_ (or_ (bl_ (op2 dLt (op2 dIx (v_ 3) (c_ (.int 0))) (v_ 2))) (or_ (bl_ (op2 dGe (op2 dIx (v_ 3) (c_ (.int 0))) (v_ 1))) (or_ (bl_ (op2 dLt (op2 dIx (v_ 3) (c_ (.int 4))) (un_ dNeg (c_ (.int 1))))) (bl_ (op2 dGe (op2 dIx (v_ 3) (c_ (.int 4))) (v_ 1)))))) (raise_ "BadWay") nx_)
  (sq_ (set_ 2 (tTk (op2 dIx (v_ 3) (c_ (.int 0)))))
  (sq_ (ifs_ (or_ (not_ (bl_ (callD sp0 (cons_ (op2 dIx (v_ 3) (c_ (.int 1))) nil_)))) (bl_ (op2 (dIn true) (op2 dIx (v_ 3) (c_ (.int 5))) (tup_ (cons_ (c_ (.str "new")) (cons_ (c_ (.str "near")) (cons_ (c_ (.str "far")) nil_))))))) (raise_ "BadWay") nx_)
  (sq_ (ifs_ (and_ (bl_ (op2 (dEq false) (op2 dIx (v_ 3) (c_ (.int 4))) (un_ dNeg (c_ (.int 1))))) (bl_ (op2 (dEq true) (op2 dIx (v_ 3) (c_ (.int 5))) (c_ (.str "new"))))) (raise_ "BadWay") nx_)
  (for_ 4 (it_ (tTk (op2 dIx (v_ 3) (c_ (.int 2))))) (ifs_ (not_ (bl_ (callD sp1 (cons_ (v_ 0) (cons_ (v_ 4) nil_))))) (raise_ "BadWay") nx_)))))))))
/- looked(chart); calls: look_at_numbers, look_at_kinds, look_at_names, look_at_boxes, look_at_deeds, look_at_ways; slots: 0:chart -/
def w_lookedX (sp0 : SpG) (sp1 : SpG) (sp2 : SpG) (sp3 : SpG) (sp4 : SpG) (sp5 : SpG) : TSD :=
  (sq_ (exx_ (callE_ [none] [] sp0 (tmpx_ (pt_ (tTk (v_ 0))) nilx_)))
  (sq_ (exx_ (callE_ [none] [] sp1 (tmpx_ (pt_ (tTk (un_ (dFld "tree") (v_ 0)))) nilx_)))
  (sq_ (exx_ (callE_ [none] [] sp2 (tmpx_ (pt_ (tTk (v_ 0))) nilx_)))
  (sq_ (exx_ (callE_ [none] [] sp3 (tmpx_ (pt_ (tTk (v_ 0))) nilx_)))
  (sq_ (exx_ (callE_ [none] [] sp4 (tmpx_ (pt_ (tTk (v_ 0))) nilx_)))
  (exx_ (callE_ [none] [] sp5 (tmpx_ (pt_ (tTk (v_ 0))) nilx_))))))))
/- _law_refusal(chart); calls: looked; slots: 0:chart 1:kind 2:right -/
def w_L_refusal (sp0 : SpG) : TSD :=
  (sq_ (set_ 1 (un_ dNeg (c_ (.int 1))))
  (sq_ (set_ 2 (c_ (.bl false)))
  (sq_ (tryM_ [((fun n => n == ("BadTree" : Str)), (set_ 1 (c_ (.int 0)))), ((fun n => n == ("BadName" : Str)), (set_ 1 (c_ (.int 1)))), ((fun n => n == ("BadBox" : Str)), (set_ 1 (c_ (.int 2)))), ((fun n => n == ("BadDeed" : Str)), (set_ 1 (c_ (.int 3)))), ((fun n => n == ("BadWay" : Str)), (set_ 1 (c_ (.int 4))))] (setx_ 2 (opx_ (dIs false) (callE_ [none] [] sp0 (tmpx_ (pt_ (tTk (v_ 0))) nilx_)) (pt_ (c_ .non)))))
  (sq_ (ifs_ (and_ (bl_ (op2 (dEq false) (v_ 1) (un_ dNeg (c_ (.int 1))))) (not_ (bl_ (v_ 2)))) (ret_ (c_ (.int 9))) nx_)
  (retv_ 1)))))
/- _law_bases(chart); calls: looked; slots: 0:chart 1:marks 2:e -/
def w_L_bases_2 (sp0 : SpG) : TSD :=
  (sq_ (set_ 1 (lst_ nil_))
  (sq_ (tryAsM_ 2 1 (fun n => [true, n == ("BadTree" : Str), n == ("BadName" : Str), n == ("BadBox" : Str), n == ("BadDeed" : Str), n == ("BadWay" : Str)]) (exx_ (callE_ [none] [] sp0 (tmpx_ (pt_ (tTk (v_ 0))) nilx_))))
  (retv_ 1)))
/- law(script); calls: _law_parts, _law_cell_at, _law_spoil, _law_chart, _law_refusal, _law_bases; slots: 0:script 1:cell 2:parts 3:bits 4:chosen 5:k 6:which 7:chart -/
def w_law_57 (sp0 : SpD) (sp1 : SpD) (sp2 : SpM) (sp3 : SpD) (sp4 : SpD) (sp5 : SpD) : TSD :=
  (sq_ (set_ 0 (lc_ 1 (it_ (sl_ (v_ 0) no_ (po_ (c_ (.int 120))))) yes_ (op2 dMod (v_ 1) (op2 dPow (c_ (.int 10)) (c_ (.int 64))))))
  (sq_ (set_ 2 (callD sp0 (cons_ (v_ 0) nil_)))
  (sq_ (set_ 3 (op2 dMod (op2 dFdiv (callD sp1 (cons_ (v_ 0) (cons_ (c_ (.int 3)) nil_))) (c_ (.int 11))) (c_ (.int 32))))
  (sq_ (set_ 4 (lc_ 5 (rng1_ (cons_ (c_ (.int 5)) nil_)) (bl_ (op2 (dEq false) (op2 dMod (op2 dFdiv (v_ 3) (op2 dIx (lst_ (cons_ (c_ (.int 1)) (cons_ (c_ (.int 2)) (cons_ (c_ (.int 4)) (cons_ (c_ (.int 8)) (cons_ (c_ (.int 16)) nil_)))))) (v_ 5))) (c_ (.int 2))) (c_ (.int 1)))) (tTk (v_ 5))))
  (sq_ (ifs_ (bl_ (op2 dLt (call_ dLen (cons_ (v_ 4) nil_)) (c_ (.int 2)))) (set_ 4 (lst_ (cons_ (op2 dMod (v_ 3) (c_ (.int 4))) (cons_ (c_ (.int 4)) nil_)))) nx_)
  (sq_ (for_ 5 (rng1_ (cons_ (call_ dLen (cons_ (v_ 4) nil_)) nil_)) (sq_ (set_ 6 (tTk (op2 dIx (v_ 4) (op2 dSub (op2 dSub (call_ dLen (cons_ (v_ 4) nil_)) (c_ (.int 1))) (v_ 5)))))
  (exe_ (callE_ [some 2, none, none] [0] (noX sp2) (iox_ 2 (tmpx_ (pt_ (tTk (v_ 6))) (tmpx_ (pt_ (op2 dMod (op2 dFdiv (callD sp1 (cons_ (v_ 0) (cons_ (op2 dAddG (c_ (.int 4)) (v_ 6)) nil_))) (c_ (.int 7))) (op2 dPow (c_ (.int 10)) (c_ (.int 60))))) nilx_)))))))
  (sq_ (set_ 7 (callD sp3 (cons_ (v_ 2) nil_)))
  (sq_ (ifs_ (bl_ (op2 (dEq true) (callD sp4 (cons_ (v_ 7) nil_)) (op2 dIx (v_ 4) (c_ (.int 0))))) (ret_ (c_ (.bl false))) nx_)
  (sq_ (ifs_ (bl_ (op2 (dEq true) (callD sp5 (cons_ (v_ 7) nil_)) (op2 dAddG (lst_ (cons_ (c_ (.bl true)) nil_)) (lc_ 5 (rng1_ (cons_ (c_ (.int 5)) nil_)) yes_ (op2 (dEq false) (v_ 5) (op2 dIx (v_ 4) (c_ (.int 0)))))))) (ret_ (c_ (.bl false))) nx_)
  (ret_ (op2 (dEq false) (callD sp4 (cons_ (v_ 7) nil_)) (op2 dIx (v_ 4) (c_ (.int 0))))))))))))))
local macro_rules | `(tactic| walk_at "vx") => `(tactic| simp only [lcnt_, mvx_, alias_, tryM_, tryAsM_, dDictG, dDictG1, lenu_, dg1_, dLenG1, ch_, slA_, dSlA, methI_, ixv_, frzx_, forE_, forI_, dEqG, dgnew_, dInG, dGix, pgset_, dPutG, gget_, itg_, itgv_, pgx_, dPg, keyT, keyN, keyNs, NestedKey.depth, NestedKey.depthAll, raise_, exx_, setx_, retx_, ifx_, try_, tryAs_, appe_, appx_, popx_, andvx_, orvx_, sl3_, dSl3, nox_, sete_, rete_, exe_, ife_, methE_, mthD_, callE_, tmpx_, iox_, nilx_, pt_, pb_, noX, getK, okIo, putKs, isc_, opx_, blx_, ixx_, slx_, pox_, nox0_, callx_, lstx_, tupx_, andx_, orx_, notx_, Option.map_some, dnew_, dInK, dDix, pdset_, pdsd_, dPutK, keyD, dMulS, lidxS_, rng3_, dStrA1, popv_, never_, dAddA, setM_, frzv_, ioEnd, lrv_, lidx_, lens_, lend_, sm1_, dSplit, dPart, dJoin, pins_, prem_, pm0_, setsD, enum_, unp_, aug_, lrg1_, lrg2_, dSortR, D.int.injEq, dAddG, pext_, dExt, fset_, dFs, makeD, Int.cast_ofNat_Int, Int.natCast_one, Int.reduceEq, Int.reduceNeg, papp_, pset_, pmv_, pv_, pix_, pfl_, dPx, dPf, rev_, dIs, nonD, dLtS, dLeS, dRep, ixN_0, ixN_1, ixN_2, ixN_3, id_eq, Function.comp, set_, ret_, retv_, retn_, retm_, nx_, bk_, ct_, ifs_, app_, ex_, frz_, v_, c_, op2, bl_, and_, or_, not_, andv_, orv_, notv_, if_, un_, call_, one_, two_, cons_, nil_, tTk, callD, callTD, lst_, tup_, isi_, it_, seqD, yes_, sl_, po_, no_, dInt2, dSub, dAdd, dCmp, dNeg, dIx, dSl, dLen1, dList1, dTuple1, dI2, dToInt1, dAbs1, dStr1, dEq, dIn, frz, frzL, alo, aloL, noOwn, noOwnL, noOwn_lI, aloL_lI, frzL_lI, scalD, flatD, isT_ii, isT_bi, isT_li, isT_bb, isT_ib, isT_ll, isT_tt, isT_lt, isT_tl, isT_ss, isT_il, isT_it, isT_is, isT_in, isT_ln, isT_tn, isT_id, isT_ie, isT_bs, isT_bl, isT_bt, isT_bn, isT_bd, isT_be, isT_si, isT_sb, isT_sl, isT_st, isT_sn, isT_sd, isT_se, isT_lb, isT_ls, isT_ld, isT_le, isT_ti, isT_tb, isT_ts, isT_td, isT_te, isT_di, isT_db, isT_ds, isT_dl, isT_dt, isT_dn, isT_dd, isT_de, plain_d, plain_e, plain_i, plain_b, plain_s, plain_l, plain_t, plain_n, atI_0, atI_1, atI_2, atI_3, atI_4, atI_5, size_line, Nat.reduceLeDiff, Int.reduceLT, Int.reduceLE, Int.reduceToNat, CMd, CDv, CMl, CPw, deq_int, deq_str, deq_bl, wipeD, env0, List.map_cons, List.map_nil, List.length_cons, List.length_nil, List.length_map, List.replicate, List.cons_append, List.nil_append, List.getElem?_cons_zero, List.getElem?_cons_succ, List.set_cons_zero, List.set_cons_succ, List.map_map, Option.some.injEq, D.lst.injEq, exists_eq_left', exists_eq_left, Bool.not_true, Bool.not_false, Bool.true_or, Bool.or_true, Bool.true_and, Bool.and_true, Bool.false_and, Bool.and_false, Bool.false_or, Bool.or_false, reduceCtorEq, Bool.false_eq_true, decide_eq_true_eq, decide_eq_false_iff_not, false_implies, true_implies, implies_true, forall_const, and_true, true_and, and_self, or_true, true_or, not_true_eq_false, not_false_eq_true, if_true, if_false, ite_true, ite_false, Bool.and_eq_true, Bool.or_eq_true, Bool.not_eq_true', Bool.not_eq_false', Nat.reduceAdd, Nat.reduceSub])
local macro_rules | `(tactic| walk_at "sc") => `(tactic| first | refine sT trivial ?_ | refine sT rfl ?_ | refine sF (by decide +kernel) ?_ | skip)
local macro_rules | `(tactic| walk_at "wx") => `(tactic| try walk_at "vx")
/-! ### trees of moods by their elders -/
theorem lI_snoc (m : Bool) (xs : List Int) (x : Int) : lI m (xs ++ [x]) = .lst m (xs.map .int ++ [.int x]) := by unfold lI; rw [List.map_append]; rfl
def elD (es : List Int) (k : Int) : Int := es.getD k.toNat 0
def chainF (es : List Int) : Nat → Int → List Int
  | 0, _ => []
  | f + 1, at_ => if at_ = -1 then [] else at_ :: chainF es f (elD es at_)
/-- each elder is less than the mood -/
def okE (es : List Int) : Prop := ∀ k : Nat, k < es.length → -1 ≤ elD es k ∧ elD es k < k
def upM (es : List Int) (at_ : Int) : List Int := chainF es (at_.toNat + 1) at_
def aboveM (es : List Int) (k : Int) : List Int := upM es (elD es k)
theorem okE.int {es : List Int} (h : okE es) {k : Int} (h0 : 0 ≤ k) (h1 : k < es.length) : -1 ≤ elD es k ∧ elD es k < k := by
  have := h k.toNat (by omega)
  rw [show ((k.toNat : Nat) : Int) = k by omega] at this
  exact this
theorem chainF_fuel {es : List Int} (h : okE es) : ∀ (f g : Nat) (at_ : Int), -1 ≤ at_ → at_ < es.length → at_ < f → at_ < g → chainF es f at_ = chainF es g at_
  | 0, 0, _, _, _, _, _ => rfl
  | 0, g + 1, at_, h0, _, hf, _ => by
    have : at_ = -1 := by omega
    subst this; rfl
  | f + 1, 0, at_, h0, _, _, hg => by
    have : at_ = -1 := by omega
    subst this; rfl
  | f + 1, g + 1, at_, h0, h1, hf, hg => by
    unfold chainF
    split
    · rfl
    · have := h.int (k := at_) (by omega) h1
      rw [chainF_fuel h f g (elD es at_) this.1 (by omega) (by omega) (by omega)]
theorem upM_neg (es : List Int) : upM es (-1) = [] := rfl
theorem upM_step {es : List Int} (h : okE es) {at_ : Int} (h0 : 0 ≤ at_) (h1 : at_ < es.length) : upM es at_ = at_ :: aboveM es at_ := by
  have he := h.int h0 h1
  show chainF es (at_.toNat + 1) at_ = _
  unfold chainF
  rw [if_neg (by omega)]
  show _ = at_ :: chainF es ((elD es at_).toNat + 1) (elD es at_)
  rw [chainF_fuel h at_.toNat ((elD es at_).toNat + 1) (elD es at_) he.1 (by omega) (by omega) (by omega)]
/-- a longer list of elders tells the same of the moods that were -/
theorem elD_app {es : List Int} {x : Int} {k : Int} (h0 : 0 ≤ k) (h1 : k < es.length) : elD (es ++ [x]) k = elD es k := by
  unfold elD
  rw [List.getD_eq_getElem?_getD, List.getD_eq_getElem?_getD, List.getElem?_append_left (by omega)]
theorem chainF_app {es : List Int} (h : okE es) (x : Int) : ∀ (f : Nat) (at_ : Int), -1 ≤ at_ → at_ < es.length → chainF (es ++ [x]) f at_ = chainF es f at_
  | 0, _, _, _ => rfl
  | f + 1, at_, h0, h1 => by
    unfold chainF
    split
    · rfl
    · have := h.int (k := at_) (by omega) h1
      rw [elD_app (by omega) h1, chainF_app h x f _ this.1 (by omega)]
theorem upM_app {es : List Int} (h : okE es) (x : Int) {at_ : Int} (h0 : -1 ≤ at_) (h1 : at_ < es.length) : upM (es ++ [x]) at_ = upM es at_ := chainF_app h x _ _ h0 h1
theorem aboveM_app {es : List Int} (h : okE es) (x : Int) {k : Int} (h0 : 0 ≤ k) (h1 : k < es.length) : aboveM (es ++ [x]) k = aboveM es k := by
  have := h.int h0 h1
  unfold aboveM
  rw [elD_app h0 h1, upM_app h x this.1 (by omega)]
/-- the elders of all moods by the law's own drawing -/
structure okTree (es : List Int) : Prop where
  one : 1 ≤ es.length
  most : es.length ≤ 150
  root : elD es 0 = -1
  lt : ∀ k : Nat, 0 < k → k < es.length → 0 ≤ elD es k ∧ elD es k < k
  pre : ∀ k : Nat, k + 1 < es.length → elD es (k + 1 : Nat) ∈ (k : Int) :: aboveM es k
  deep : ∀ k : Nat, k < es.length → (aboveM es k).length ≤ 12
theorem okTree.ok {es : List Int} (h : okTree es) : okE es := fun k hk => by
  by_cases h0 : k = 0
  · subst h0
    have := h.root
    rw [show ((0 : Nat) : Int) = 0 from rfl, this]; omega
  · have := h.lt k (by omega) hk
    omega
theorem upM_mem {es : List Int} (h : okE es) : ∀ (n : Nat) (at_ : Int), at_ < n → -1 ≤ at_ → at_ < es.length → ∀ x ∈ upM es at_, 0 ≤ x ∧ x ≤ at_
  | 0, at_, hn, h0, _, x, m => by
    have : at_ = -1 := by omega
    subst this; cases m
  | n + 1, at_, hn, h0, h1, x, m => by
    by_cases e : at_ = -1
    · subst e; cases m
    · have he := h.int (k := at_) (by omega) h1
      rw [upM_step h (by omega) h1] at m
      rcases List.mem_cons.mp m with rfl | m
      · omega
      · have := upM_mem h n (elD es at_) (by omega) he.1 (by omega) x m
        omega
theorem aboveM_mem {es : List Int} (h : okE es) {k : Int} (h0 : 0 ≤ k) (h1 : k < es.length) {x : Int} (m : x ∈ aboveM es k) : 0 ≤ x ∧ x < k := by
  have he := h.int h0 h1
  have := upM_mem h es.length (elD es k) (by omega) he.1 (by omega) x m
  omega
theorem upM_len {es : List Int} (h : okE es) : ∀ (n : Nat) (at_ : Int), at_ < n → -1 ≤ at_ → at_ < es.length → ((upM es at_).length : Int) ≤ at_ + 1
  | 0, at_, hn, h0, _ => by
    have : at_ = -1 := by omega
    subst this; rw [upM_neg]; simp
  | n + 1, at_, hn, h0, h1 => by
    by_cases e : at_ = -1
    · subst e; rw [upM_neg]; simp
    · have he := h.int (k := at_) (by omega) h1
      rw [upM_step h (by omega) h1, List.length_cons]
      have := upM_len h n (elD es at_) (by omega) he.1 (by omega)
      show (((upM es (elD es at_)).length + 1 : Nat) : Int) ≤ _
      omega
theorem aboveM_len {es : List Int} (h : okE es) {k : Int} (h0 : 0 ≤ k) (h1 : k < es.length) : ((aboveM es k).length : Int) ≤ k := by
  have he := h.int h0 h1
  have := upM_len h es.length (elD es k) (by omega) he.1 (by omega)
  show ((upM es (elD es k)).length : Int) ≤ k
  omega
/-- a tree grows -/
theorem okTree.grow {es : List Int} (h : okTree es) (hm : es.length < 150) {x : Int} (hx : x ∈ ((es.length : Int) - 1) :: aboveM es ((es.length : Int) - 1)) (hd : (upM es x).length ≤ 12) : okTree (es ++ [x]) := by
  have ho := h.ok
  have h1 := h.one
  have hb : 0 ≤ x ∧ x < es.length := by
    rcases List.mem_cons.mp hx with rfl | m
    · omega
    · have := aboveM_mem ho (by omega) (by omega) m
      omega
  have new : elD (es ++ [x]) es.length = x := by
    unfold elD
    rw [List.getD_eq_getElem?_getD, show ((es.length : Nat) : Int).toNat = es.length by omega]
    simp
  refine ⟨by simp, by simp; omega, ?_, fun k h0 hk => ?_, fun k hk => ?_, fun k hk => ?_⟩
  · rw [elD_app (by omega) (by omega)]; exact h.root
  · by_cases hk2 : k < es.length
    · rw [elD_app (by omega) (by omega)]; exact h.lt k h0 hk2
    · have : k = es.length := by simp at hk; omega
      subst this
      rw [new]; exact hb
  · by_cases hk2 : k + 1 < es.length
    · rw [elD_app (by omega) (by omega), aboveM_app ho x (by omega) (by omega)]; exact h.pre k hk2
    · have e : k + 1 = es.length := by simp at hk; omega
      rw [e, new, aboveM_app ho x (by omega) (by omega)]
      rw [show (k : Int) = (es.length : Int) - 1 by omega]; exact hx
  · by_cases hk2 : k < es.length
    · rw [aboveM_app ho x (by omega) (by omega)]; exact h.deep k hk2
    · have e : k = es.length := by simp at hk; omega
      subst e
      show (upM (es ++ [x]) (elD (es ++ [x]) es.length)).length ≤ 12
      rw [new, upM_app ho x (by omega) (by omega)]; exact hd
theorem okTree_start : okTree [-1] := by
  refine ⟨by decide, by decide, rfl, fun k h0 h1 => ?_, fun k h => ?_, fun k h => ?_⟩
  · simp at h1; omega
  · simp at h
  · have : k = 0 := by simp at h; omega
    subst this; decide
/-- inner moods -/
def innerM (es : List Int) (k : Int) : List Int := ((List.range es.length).filter fun j => decide (elD es (j : Nat) = k)).map Int.ofNat
/-- kinds and starts -/
def okKind (es : List Int) (ks : List Str) (ss : List Int) (k : Nat) : Prop :=
  (innerM es k = [] ∧ ks[k]? = some ("leaf" : Str) ∧ ss[k]? = some (-1)) ∨ (innerM es k ≠ [] ∧ ks[k]? = some ("all" : Str) ∧ ss[k]? = some (-1)) ∨ (innerM es k ≠ [] ∧ ks[k]? = some ("one" : Str) ∧ ∃ s, ss[k]? = some s ∧ s ∈ innerM es k)
structure okLists (ks : List Str) (es ss : List Int) : Prop where
  tree : okTree es
  lk : ks.length = es.length
  ls : ss.length = es.length
  kind : ∀ k < es.length, okKind es ks ss k
def treeD (m : Bool) (ks : List Str) (es ss : List Int) : D := .obj m "Tree" ["kinds", "elders", "starts"] [.lst m (ks.map .str), lI m es, lI m ss]
theorem frzL_str (ks : List Str) : frzL (ks.map .str) = ks.map .str := frzL_map_id D.str (fun _ => rfl) ks
theorem noOwnL_str (ks : List Str) : noOwnL (ks.map .str) = true := noOwnL_map D.str (fun _ => rfl) ks
theorem aloL_str (ks : List Str) : aloL (ks.map .str) = true := aloL_map D.str (fun _ => rfl) ks
theorem frz_tree (m : Bool) (ks : List Str) (es ss : List Int) : frz (treeD m ks es ss) = treeD false ks es ss := by
  unfold treeD
  simp only [frz, frzL, frzL_str, frzL_lI]
theorem alo_tree (ks : List Str) (es ss : List Int) : alo (treeD true ks es ss) = true := by
  unfold treeD
  simp only [alo, aloL, aloL_str, aloL_lI, Bool.and_true]
theorem noOwn_tree (ks : List Str) (es ss : List Int) : noOwn (treeD false ks es ss) = true := by
  unfold treeD
  simp only [noOwn, noOwnL, noOwnL_str, noOwn_lI, Bool.not_false, Bool.and_true]
theorem b_ek : (("elders" : Str) == "kinds") = false := by decide +kernel
theorem b_sk : (("starts" : Str) == "kinds") = false := by decide +kernel
theorem b_se : (("starts" : Str) == "elders") = false := by decide +kernel
theorem fld_kinds (m : Bool) (ks : List Str) (es ss : List Int) (Q : D → Prop) : dFld "kinds" (treeD m ks es ss) Q = Q (.lst m (ks.map .str)) := by
  unfold treeD dFld
  simp only [List.zip_cons_cons, List.lookup_cons, beq_self_eq_true, Option.some.injEq, exists_eq_left']
theorem fld_elders (m : Bool) (ks : List Str) (es ss : List Int) (Q : D → Prop) : dFld "elders" (treeD m ks es ss) Q = Q (lI m es) := by
  unfold treeD dFld
  simp only [List.zip_cons_cons, List.lookup_cons, b_ek, beq_self_eq_true, Option.some.injEq, exists_eq_left']
theorem fld_starts (m : Bool) (ks : List Str) (es ss : List Int) (Q : D → Prop) : dFld "starts" (treeD m ks es ss) Q = Q (lI m ss) := by
  unfold treeD dFld
  simp only [List.zip_cons_cons, List.lookup_cons, b_sk, b_se, beq_self_eq_true, Option.some.injEq, exists_eq_left']
local macro_rules | `(tactic| walk_at "vt") => `(tactic| repeat (first | simp only [fld_kinds, fld_elders, fld_starts, frz_tree, alo_tree, noOwn_tree] | walk_at "vx"))
theorem any_ints (xs : List Int) (o : Int) : ((xs.map D.int).any fun d => deq d (.int o)) = decide (o ∈ xs) := by
  induction xs with
  | nil => rfl
  | cons x xs ih =>
    rw [List.map_cons, List.any_cons, ih, deq_int]
    by_cases h : x = o
    · subst h; simp
    · rw [decide_eq_false h, Bool.false_or]
      simp only [List.mem_cons, show ¬ o = x from fun e => h e.symm, false_or]
theorem flat_ints (xs : List Int) : (xs.map D.int).all flatD = true := by
  rw [List.all_map, List.all_eq_true]
  exact fun _ _ => rfl
/-! ### the cells of a script, again and again -/
/-! ### kinds, starts, what is chosen -/
def kdM (ks : List Str) (k : Int) : Str := ks.getD k.toNat ""
def okKs (es : List Int) (ks : List Str) : Prop := ks.length = es.length ∧ ∀ k : Nat, k < es.length → (innerM es k = [] ∧ kdM ks k = "leaf") ∨ (innerM es k ≠ [] ∧ (kdM ks k = "all" ∨ kdM ks k = "one"))
def okCh (es : List Int) (ks : List Str) (ch : List Int) : Prop := ch.length = es.length ∧ ∀ k : Nat, k < es.length → (kdM ks k = "one" → elD ch k ∈ innerM es k) ∧ (kdM ks k ≠ "one" → elD ch k = -1)
theorem mem_innerM {es : List Int} {k x : Int} : x ∈ innerM es k ↔ 0 ≤ x ∧ x < es.length ∧ elD es x = k := by
  unfold innerM
  rw [List.mem_map]
  constructor
  · rintro ⟨j, m, rfl⟩
    obtain ⟨h1, h2⟩ := List.mem_filter.mp m
    rw [List.mem_range] at h1
    exact ⟨Int.natCast_nonneg j, by show (j : Int) < _; omega, of_decide_eq_true h2⟩
  · rintro ⟨h0, h1, h2⟩
    refine ⟨x.toNat, List.mem_filter.mpr ⟨List.mem_range.mpr (by omega), decide_eq_true ?_⟩, ?_⟩
    · rw [show ((x.toNat : Nat) : Int) = x by omega]; exact h2
    · show ((x.toNat : Nat) : Int) = x; omega
theorem okKs.kinds {es : List Int} {ks : List Str} (h : okKs es ks) : ∀ x ∈ ks, PyData.strOk x = true := fun x m => by
  obtain ⟨i, hi⟩ := List.mem_iff_getElem?.mp m
  have hl := (List.getElem?_eq_some_iff.mp hi).1
  have s1 : PyData.strOk "leaf" = true := by decide +kernel
  have s2 : PyData.strOk "all" = true := by decide +kernel
  have s3 : PyData.strOk "one" = true := by decide +kernel
  have e : kdM ks i = x := by unfold kdM; rw [Int.toNat_natCast, List.getD_eq_getElem?_getD, hi]; rfl
  rcases h.2 i (by rw [← h.1]; exact hl) with ⟨_, q⟩ | ⟨_, q | q⟩ <;> (rw [e] at q; rw [q]; assumption)
theorem ix_el {xs : List Int} {k : Int} {Q : D → Prop} (h0 : 0 ≤ k) (h1 : k < xs.length) (q : Q (.int (elD xs k))) : ∃ d, atI (xs.map D.int) k = some d ∧ Q d := ix_lI h0 h1 q
theorem ix_kd {ks : List Str} {k : Nat} {Q : D → Prop} (h1 : k < ks.length) (q : Q (.str (kdM ks k))) : ∃ d, atI (ks.map D.str) (k : Int) = some d ∧ Q d :=
  ix_map (f := D.str) "" (by omega) (by omega) (by unfold kdM at q; exact q)
theorem getD_mem {α : Type} {xs : List α} {k : Nat} {d : α} (h : k < xs.length) : xs.getD k d ∈ xs := by
  rw [List.getD_eq_getElem?_getD, List.getElem?_eq_getElem h]
  exact List.getElem_mem h
def sp_L_above : SpD := fun ds Q => ∃ m es k, ds = [lI m es, .int k] ∧ okE es ∧ es.length ≤ 150 ∧ 0 ≤ k ∧ k < es.length ∧ Q (lI true (aboveM es k))
theorem len_L_above : ∀ ds Q, sp_L_above ds Q → ds.length = 2 := by rintro _ _ ⟨_, _, _, rfl, _⟩; rfl
theorem u_L_above {m : Bool} {es : List Int} {k : Int} {Q : D → Prop} (ok : okE es) (hl : es.length ≤ 150) (h0 : 0 ≤ k) (h1 : k < es.length) (q : Q (lI true (aboveM es k))) : sp_L_above [lI m es, .int k] Q := ⟨m, es, k, rfl, ok, hl, h0, h1, q⟩
theorem d_L_above : ∀ ds Q, sp_L_above ds Q → w_L_above { nx := fun _ => Q .non, rt := fun d _ => Q d } (env0 3 ds) := by
  rintro _ Q ⟨m, es, k, rfl, ok, hl, h0, h1, q⟩
  unfold w_L_above
  refine sq_i ?_
  walk_at "vx"
  refine sq_i ?_
  refine ⟨fun env => ∃ (pre : List Int) (at_ : Int), env = [some (lI m es), some (.int at_), some (lI true pre)] ∧ 0 ≤ at_ ∧ at_ < es.length ∧ pre ++ aboveM es at_ = aboveM es k ∧ (pre.length : Int) + at_ < 150,
    fun env => match env with | [_, some (.int a), _] => (a + 1).toNat | _ => 0, ⟨[], _, rfl, h0, h1, rfl, (show (0 : Int) + k < 150 by omega)⟩, ?_⟩
  rintro _ ⟨pre, at_, rfl, a0, a1, e, hp⟩
  have he := ok.int a0 a1
  walk_at "vx"
  refine ix_el a0 a1 ?_
  walk_at "wx"
  refine ⟨fun hne => ?_, fun heq => ?_⟩
  · refine sq_i ?_
    walk_at "vx"
    refine ix_el a0 a1 ⟨rfl, ?_⟩
    walk_at "wx"
    have us : aboveM es at_ = elD es at_ :: aboveM es (elD es at_) := upM_step ok (by omega) (by omega)
    refine ⟨by omega, ⟨pre ++ [elD es at_], elD es at_, by rw [lI_snoc], by omega, by omega, ?_, by simp; omega⟩, ?_⟩
    · rw [← e, us, List.append_assoc]; rfl
    · show (elD es at_ + 1).toNat < (at_ + 1).toNat
      omega
  · have : aboveM es at_ = [] := by unfold aboveM; rw [heq, upM_neg]
    rw [this, List.append_nil] at e
    subst e
    walk_at "wx"
    exact q
def sp_L_cell_at : SpD := fun ds Q => ∃ m ns k, ds = [lI m ns, .int k] ∧ 0 ≤ k ∧ Q (.int (ns.getD k.toNat 0))
theorem len_L_cell_at : ∀ ds Q, sp_L_cell_at ds Q → ds.length = 2 := by rintro _ _ ⟨_, _, _, rfl, _⟩; rfl
theorem d_L_cell_at : ∀ ds Q, sp_L_cell_at ds Q → w_L_cell_at { nx := fun _ => Q .non, rt := fun d _ => Q d } (env0 2 ds) := by
  rintro _ Q ⟨m, ns, k, rfl, h0, q⟩
  unfold w_L_cell_at
  refine sq_i ?_
  walk_at "vx"
  refine ⟨fun h => ix_lI h0 h ⟨rfl, q⟩, fun h => ?_⟩
  rwa [getD_ge (by omega)] at q
/-! ### names by a cell -/
theorem len_app (a b : Str) : (a ++ b).length = a.length + b.length := by
  show (a.cps ++ b.cps).size = _
  rw [Array.size_append]; rfl
theorem strOk_app {a b : Str} (h1 : PyData.strOk a = true) (h2 : PyData.strOk b = true) : PyData.strOk (a ++ b) = true := by
  show (a.cps ++ b.cps).all _ = true
  rw [Array.all_append]
  exact Bool.and_eq_true_iff.mpr ⟨h1, h2⟩
/-! ### numbers by a cell -/
/-! ### marks, terms, asks of numbers -/
inductive Mrk where | lt | le | eq | ne
def mS : Mrk → Str
  | .lt => "<"
  | .le => "<="
  | .eq => "="
  | .ne => "!="
def tD (b more : Int) : D := .tup [.int b, .int more]
/-! ### boxes, terms, deeds by a cell -/
inductive Deed where
  | put (b : Int) (t : Int × Int)
  | call (n : Str)
  | say (n : Str) (t : Int × Int)
def dD : Deed → D
  | .put b t => .tup [.str "put", .int b, tD t.1 t.2]
  | .call n => .tup [.str "call", .str n]
  | .say n t => .tup [.str "say", .str n, tD t.1 t.2]
/-- a deed of boxes -/
def okDe (many : Int) : Deed → Prop
  | .put b t => 0 ≤ b ∧ b < many ∧ (t.1 = -1 ∨ 0 ≤ t.1 ∧ t.1 < many)
  | .call n => PyData.strOk n = true
  | .say n t => PyData.strOk n = true ∧ (t.1 = -1 ∨ 0 ≤ t.1 ∧ t.1 < many)
theorem noOwn_dD (d : Deed) : noOwn (dD d) = true := by cases d <;> rfl
def scD : D → Prop
  | .str s => PyData.strOk s = true
  | .int _ => True
  | _ => False
/-! ### journal rows -/
/-! ### rows of deeds -/
/-! ### the same data, whatever the marks are -/
/-! ### cells with whole numbers, names, entries of a script -/
theorem log_lt {k : Int} (h : k.natAbs < 2 ^ 1900) : k.natAbs.log2 < 1920 := by
  by_cases e : k.natAbs = 0
  · rw [e]; decide
  · exact Nat.lt_of_lt_of_le ((Nat.log2_lt e).mpr h) (by decide)
inductive Ent where
  | mk (w : Str) (rs : List Int)
  | de (d : Deed)
/-! ### open moods -/
structure okOp (es : List Int) (ks : List Str) (ch op : List Int) : Prop where
  rise : op.Pairwise (· < ·)
  mem : ∀ x, x ∈ op ↔ 0 ≤ x ∧ x < es.length ∧ (x = 0 ∨ (elD es x ∈ op ∧ (kdM ks (elD es x) = "all" ∨ elD ch (elD es x) = x)))
theorem okOp.bnd {es : List Int} {ks : List Str} {ch op : List Int} (h : okOp es ks ch op) {x : Int} (m : x ∈ op) : 0 ≤ x ∧ x < es.length := ⟨((h.mem x).mp m).1, ((h.mem x).mp m).2.1⟩
theorem rise_len : ∀ {op : List Int} {lo hi : Int}, op.Pairwise (· < ·) → (∀ x ∈ op, lo ≤ x ∧ x < hi) → (op.length : Int) ≤ if lo ≤ hi then hi - lo else 0
  | [], lo, hi, _, _ => by simp; split <;> omega
  | a :: op, lo, hi, h, hb => by
    have ha := hb a List.mem_cons_self
    have h' := List.pairwise_cons.mp h
    have ih := rise_len (lo := a + 1) (hi := hi) h'.2 fun x m => ⟨by have := h'.1 x m; omega, (hb x (List.mem_cons_of_mem _ m)).2⟩
    rw [List.length_cons]
    rw [if_pos (by omega)] at ih
    rw [if_pos (by omega)]
    omega
theorem okOp.len {es : List Int} {ks : List Str} {ch op : List Int} (h : okOp es ks ch op) : op.length ≤ es.length := by
  have := rise_len (lo := 0) (hi := es.length) h.rise fun x m => h.bnd m
  rw [if_pos (by omega)] at this
  omega
-- needs: m_cell m_trans m_opens
/-! ### what opens with a mood -/
def goalM (ss mem : List Int) (k : Int) (mode : Str) : Int := if mode ≠ "new" ∧ elD mem k ≠ -1 then elD mem k else elD ss k
def okMem (es : List Int) (ks : List Str) (mem : List Int) : Prop := mem.length = es.length ∧ ∀ k : Nat, k < es.length → (kdM ks k = "one" → elD mem k = -1 ∨ elD mem k ∈ innerM es k) ∧ (kdM ks k ≠ "one" → elD mem k = -1)
def okMode (mode : Str) : Prop := mode = "new" ∨ mode = "near" ∨ mode = "far"
structure okOpn (es : List Int) (ks : List Str) (ss mem : List Int) : Prop where
  tree : okTree es
  kk : okKs es ks
  hs : okCh es ks ss
  hm : okMem es ks mem
theorem s_ne1 : (("all" : Str) ≠ "one") ∧ (("leaf" : Str) ≠ "one") ∧ (("leaf" : Str) ≠ "all") ∧ (("new" : Str) ≠ "far") ∧ (("near" : Str) ≠ "far") ∧ (("near" : Str) ≠ "new") := by decide +kernel
theorem okOpn.goal {es : List Int} {ks : List Str} {ss mem : List Int} (h : okOpn es ks ss mem) {m : Int} (m0 : 0 ≤ m) (m1 : m < es.length) (mode : Str) (hk : kdM ks m = "one") : goalM ss mem m mode ∈ innerM es m := by
  have a := (h.hs.2 m.toNat (by omega)).1
  have b := (h.hm.2 m.toNat (by omega)).1
  rw [show ((m.toNat : Nat) : Int) = m by omega] at a b
  unfold goalM
  split
  · rename_i h2
    exact (b hk).resolve_left h2.2
  · exact a hk
theorem inner_up {es : List Int} (h : okE es) {m x : Int} (m0 : 0 ≤ m) (hx : x ∈ innerM es m) : 0 ≤ x ∧ x < es.length ∧ m < x ∧ aboveM es x = m :: aboveM es m := by
  obtain ⟨h1, h2, h3⟩ := mem_innerM.mp hx
  have he := h.int h1 h2
  rw [h3] at he
  refine ⟨h1, h2, he.2, ?_⟩
  unfold aboveM
  rw [h3, upM_step h m0 (by omega)]; rfl
theorem innerM_rise (es : List Int) (k : Int) : (innerM es k).Pairwise (· < ·) := by
  unfold innerM
  rw [List.pairwise_map]
  exact (List.pairwise_lt_range.sublist List.filter_sublist).imp fun h => by show (_ : Int) < _; simpa using h
theorem rise_ext : ∀ {xs ys : List Int}, xs.Pairwise (· < ·) → ys.Pairwise (· < ·) → (∀ x, x ∈ xs ↔ x ∈ ys) → xs = ys
  | [], [], _, _, _ => rfl
  | [], y :: ys, _, _, h => absurd ((h y).mpr List.mem_cons_self) (by simp)
  | x :: xs, [], _, _, h => absurd ((h x).mp List.mem_cons_self) (by simp)
  | x :: xs, y :: ys, hx, hy, h => by
    have px := List.pairwise_cons.mp hx
    have py := List.pairwise_cons.mp hy
    have e : x = y := by
      have h1 := (h x).mp List.mem_cons_self
      have h2 := (h y).mpr List.mem_cons_self
      rcases List.mem_cons.mp h1 with e | h1
      · exact e
      · rcases List.mem_cons.mp h2 with e | h2
        · exact e.symm
        · have := py.1 x h1; have := px.1 y h2; omega
    subst e
    rw [rise_ext px.2 py.2 fun z => ?_]
    constructor
    · intro m
      have := px.1 z m
      exact (List.mem_cons.mp ((h z).mp (List.mem_cons_of_mem _ m))).resolve_left (by omega)
    · intro m
      have := py.1 z m
      exact (List.mem_cons.mp ((h z).mpr (List.mem_cons_of_mem _ m))).resolve_left (by omega)
theorem atI_end {xs : List D} {x : D} : atI (xs ++ [x]) (-1) = some x := by
  unfold atI ixN
  rw [if_neg (by omega), if_pos (by rw [List.length_append, List.length_singleton]; omega)]
  show (xs ++ [x])[((((xs ++ [x]).length : Nat) : Int) + -1).toNat]? = some x
  rw [show ((((xs ++ [x]).length : Nat) : Int) + -1).toNat = xs.length by rw [List.length_append, List.length_singleton]; omega]
  simp
-- needs: m_rows m_ent m_openM m_atEnd
/-! ### journal rows walked -/
structure St where
  os : List Int
  me : List Int
  bx : List Int
inductive Rw where
  | out (k : Int)
  | inn (k : Int)
  | keep (m x y : Int)
  | put (b x y : Int)
  | oth (w : Str) (rs : List D)
def insI (k : Int) (os : List Int) : List Int := os.filter (fun x => decide (x < k)) ++ k :: os.filter (fun x => decide (k < x))
def fw (s : St) : Rw → St
  | .out k => { s with os := s.os.erase k }
  | .inn k => { s with os := insI k s.os }
  | .keep m _ y => { s with me := s.me.set m.toNat y }
  | .put b _ y => { s with bx := s.bx.set b.toNat y }
  | .oth _ _ => s
def bk (s : St) : Rw → St
  | .out k => { s with os := insI k s.os }
  | .inn k => { s with os := s.os.erase k }
  | .keep m x _ => { s with me := s.me.set m.toNat x }
  | .put b x _ => { s with bx := s.bx.set b.toNat x }
  | .oth _ _ => s
def okSt (s : St) : Prop := s.os.Pairwise (· < ·) ∧ (∀ x ∈ s.os, 0 ≤ x ∧ x < s.me.length) ∧ s.me.length ≤ 1000 ∧ s.bx.length ≤ 1000
def othOk (w : Str) (rs : List D) : Prop := (w ≠ "out" ∧ w ≠ "in" ∧ w ≠ "keep" ∧ w ≠ "put" ∧ PyData.strOk w = true) ∧ rs.length ≤ 4 ∧ ∀ r ∈ rs, scD r
/-- a row that can be gone forth, and back -/
def okF (s : St) : Rw → Prop
  | .out k => k ∈ s.os
  | .inn k => 0 ≤ k ∧ k < s.me.length ∧ k ∉ s.os
  | .keep m _ _ => 0 ≤ m ∧ m < s.me.length
  | .put b _ _ => 0 ≤ b ∧ b < s.bx.length
  | .oth w rs => othOk w rs
/-- a row that tells what was there before -/
def okRw (s : St) : Rw → Prop
  | .keep m x _ => 0 ≤ m ∧ m < s.me.length ∧ s.me.getD m.toNat 0 = x
  | .put b x _ => 0 ≤ b ∧ b < s.bx.length ∧ s.bx.getD b.toNat 0 = x
  | r => okF s r
theorem okRw.f {s : St} {r : Rw} (h : okRw s r) : okF s r := by
  cases r <;> first | exact h | exact ⟨h.1, h.2.1⟩
theorem okSt.len {s : St} (h : okSt s) : s.os.length ≤ 1000 := by
  have := rise_len (lo := 0) (hi := (s.me.length : Int)) h.1 h.2.1
  have := h.2.2.1
  split at * <;> omega
def okWr : Rw → Prop
  | .oth w rs => othOk w rs
  | _ => True
theorem okF.w {s : St} {r : Rw} (h : okF s r) : okWr r := by cases r <;> first | trivial | exact h
/-! ### what is entered -/
section
variable (es : List Int) (ks : List Str) (ss mem : List Int) (t : Int) (mode : Str)
end
section
variable {es : List Int} {ks : List Str} {ss mem : List Int} {t : Int} {mode : Str}
/-- in or beneath the target -/
def inD (es : List Int) (t x : Int) : Prop := x = t ∨ t ∈ aboveM es x
instance (es : List Int) (t x : Int) : Decidable (inD es t x) := inferInstanceAs (Decidable (_ ∨ _))
def goalE (es ss mem : List Int) (t e : Int) (mode : Str) : Int := if ((e = t ∧ mode ≠ "new") ∨ (inD es t e ∧ mode = "far")) ∧ elD mem e ≠ -1 then elD mem e else elD ss e
/-- the way: what is asked of it -/
structure isWay (es : List Int) (t : Int) (way : List Int) : Prop where
  last : t ∈ way
  sub : ∀ x ∈ way, 0 ≤ x ∧ x < es.length ∧ (t = x ∨ x ∈ aboveM es t)
  mid : ∀ m ∈ way, ∀ z : Int, m ∈ aboveM es z → (z = t ∨ z ∈ aboveM es t) → z ∈ way
end
-- needs: m_tree
/-! ### whole lists of open moods -/
def inOp (es op : List Int) (k : Int) : List Int := (innerM es k).filter fun x => decide (x ∈ op)
structure Whole (es : List Int) (ks : List Str) (op : List Int) : Prop where
  rise : op.Pairwise (· < ·)
  bnd : ∀ x ∈ op, 0 ≤ x ∧ x < es.length
  root : (0 : Int) ∈ op
  up : ∀ x ∈ op, 0 < x → elD es x ∈ op
  one : ∀ x ∈ op, kdM ks x = "one" → (inOp es op x).length = 1
  all : ∀ x ∈ op, kdM ks x = "all" → (inOp es op x).length = (innerM es x).length
theorem mem_inOp {es op : List Int} {k x : Int} : x ∈ inOp es op k ↔ x ∈ innerM es k ∧ x ∈ op := by
  unfold inOp
  rw [List.mem_filter, decide_eq_true_eq]
theorem inOp_one {es op : List Int} {k y : Int} (hy : y ∈ innerM es k) (h : ∀ x ∈ innerM es k, x ∈ op ↔ x = y) : inOp es op k = [y] :=
  rise_ext ((innerM_rise es k).sublist List.filter_sublist) (List.pairwise_singleton _ _) fun x => by
    rw [mem_inOp, List.mem_singleton]
    exact ⟨fun z => (h x z.1).mp z.2, fun z => by subst z; exact ⟨hy, (h x hy).mpr rfl⟩⟩
theorem kd_cases {es : List Int} {ks : List Str} (h : okKs es ks) {k : Int} (h0 : 0 ≤ k) (h1 : k < es.length) : (innerM es k = [] ∧ kdM ks k = "leaf") ∨ (innerM es k ≠ [] ∧ (kdM ks k = "all" ∨ kdM ks k = "one")) := by
  have := h.2 k.toNat (by omega)
  rw [show ((k.toNat : Nat) : Int) = k by omega] at this
  exact this
theorem ch_cases {es : List Int} {ks : List Str} {ch : List Int} (h : okCh es ks ch) {k : Int} (h0 : 0 ≤ k) (h1 : k < es.length) : (kdM ks k = "one" → elD ch k ∈ innerM es k) ∧ (kdM ks k ≠ "one" → elD ch k = -1) := by
  have := h.2 k.toNat (by omega)
  rw [show ((k.toNat : Nat) : Int) = k by omega] at this
  exact this
theorem el_pos {es : List Int} (t : okTree es) {x : Int} (h0 : 0 < x) (h1 : x < es.length) : 0 ≤ elD es x ∧ elD es x < x := by
  have := t.lt x.toNat (by omega) (by omega)
  rw [show ((x.toNat : Nat) : Int) = x by omega] at this
  exact this
/-- the chosen moods tell which inner mood of a one is open -/
theorem okOp.in1 {es : List Int} {ks : List Str} {ch op : List Int} (t : okTree es) (hc : okCh es ks ch) (h : okOp es ks ch op) {k : Int} (hk : k ∈ op) (ho : kdM ks k = "one") : inOp es op k = [elD ch k] := by
  have hb := h.bnd hk
  refine inOp_one ((ch_cases hc hb.1 hb.2).1 ho) fun x hx => ?_
  have hu := inner_up t.ok hb.1 hx
  have he := (mem_innerM.mp hx).2.2
  rw [h.mem, he, ho]
  constructor
  · rintro ⟨_, _, e | ⟨_, e | e⟩⟩
    · omega
    · exact absurd e.symm s_ne1.1
    · exact e.symm
  · rintro e
    exact ⟨hu.1, hu.2.1, .inr ⟨hk, .inr e.symm⟩⟩
theorem okOp.whole {es : List Int} {ks : List Str} {ch op : List Int} (t : okTree es) (hk : okKs es ks) (hc : okCh es ks ch) (h : okOp es ks ch op) : Whole es ks op := by
  refine ⟨h.rise, fun x m => h.bnd m, (h.mem 0).mpr ⟨by decide, by have := t.one; omega, .inl rfl⟩, fun x m h0 => ?_, fun x m hx => ?_, fun x m hx => ?_⟩
  · rcases ((h.mem x).mp m).2.2 with e | e
    · omega
    · exact e.1
  · rw [h.in1 t hc m hx]; rfl
  · have : inOp es op x = innerM es x := by
      unfold inOp
      rw [List.filter_eq_self]
      intro y hy
      have hb := h.bnd m
      have hu := inner_up t.ok hb.1 hy
      refine decide_eq_true ((h.mem y).mpr ⟨hu.1, hu.2.1, .inr ?_⟩)
      rw [(mem_innerM.mp hy).2.2]
      exact ⟨m, .inl hx⟩
    rw [this]
/-- of a whole list: the chosen moods -/
theorem Whole.okOp {es : List Int} {ks : List Str} {ch op : List Int} (t : okTree es) (hk : okKs es ks) (h : Whole es ks op) (hc : ∀ k ∈ op, kdM ks k = "one" → elD ch k = (inOp es op k).headD (-1)) : okOp es ks ch op := by
  refine ⟨h.rise, fun x => ⟨fun m => ?_, fun ⟨x0, x1, hx⟩ => ?_⟩⟩
  · have hb := h.bnd x m
    refine ⟨hb.1, hb.2, ?_⟩
    by_cases e : x = 0
    · exact .inl e
    · have he := el_pos t (x := x) (by omega) hb.2
      have hu := h.up x m (by omega)
      have hi : x ∈ innerM es (elD es x) := mem_innerM.mpr ⟨hb.1, hb.2, rfl⟩
      refine .inr ⟨hu, ?_⟩
      rcases kd_cases hk he.1 (by omega) with ⟨e, _⟩ | ⟨_, e | e⟩
      · rw [e] at hi; cases hi
      · exact .inl e
      · right
        rw [hc _ hu e]
        have h1 := h.one _ hu e
        have mi : x ∈ inOp es op (elD es x) := mem_inOp.mpr ⟨hi, m⟩
        generalize inOp es op (elD es x) = l at h1 mi ⊢
        match l, h1, mi with
        | [y], _, mi => exact (List.mem_singleton.mp mi).symm
  · rcases hx with e | ⟨hu, hx⟩
    · rw [e]; exact h.root
    · by_cases e0 : x = 0
      · rw [e0]; exact h.root
      have hi : x ∈ innerM es (elD es x) := mem_innerM.mpr ⟨x0, x1, rfl⟩
      have fin : x ∈ inOp es op (elD es x) → x ∈ op := fun z => (mem_inOp.mp z).2
      rcases kd_cases hk (h.bnd _ hu).1 (h.bnd _ hu).2 with ⟨e, _⟩ | ⟨_, e | e⟩
      · rw [e] at hi; cases hi
      · have h1 := h.all _ hu e
        have : inOp es op (elD es x) = innerM es (elD es x) := List.Sublist.eq_of_length List.filter_sublist h1
        exact fin (by rw [this]; exact hi)
      · rcases hx with hx | hx
        · rw [e] at hx; exact absurd hx.symm s_ne1.1
        · rw [hc _ hu e] at hx
          have h1 := h.one _ hu e
          refine fin ?_
          generalize inOp es op (elD es x) = l at h1 hx ⊢
          match l, h1, hx with
          | [y], _, hx => exact List.mem_singleton.mpr hx.symm
-- needs: m_trans
/-! ### open moods beneath a mood -/
structure SubW (es : List Int) (ks : List Str) (m : Int) (P : Int → Prop) : Prop where
  root : P m
  sub : ∀ x, P x → 0 ≤ x ∧ x < es.length ∧ (x = m ∨ m ∈ aboveM es x)
  up : ∀ x, P x → x ≠ m → P (elD es x)
  one : ∀ x, P x → kdM ks x = "one" → ∃ y, y ∈ innerM es x ∧ P y ∧ ∀ z ∈ innerM es x, P z → z = y
  all : ∀ x, P x → kdM ks x = "all" → ∀ y ∈ innerM es x, P y
theorem SubW.congr {es : List Int} {ks : List Str} {m : Int} {P P' : Int → Prop} (h : SubW es ks m P) (e : ∀ x, P' x ↔ P x) : SubW es ks m P' := by
  refine ⟨(e m).mpr h.root, fun x hx => h.sub x ((e x).mp hx), fun x hx ne => (e _).mpr (h.up x ((e x).mp hx) ne), fun x hx k => ?_, fun x hx k y hy => (e y).mpr (h.all x ((e x).mp hx) k y hy)⟩
  obtain ⟨y, h1, h2, h3⟩ := h.one x ((e x).mp hx) k
  exact ⟨y, h1, (e y).mpr h2, fun z hz pz => h3 z hz ((e z).mp pz)⟩
theorem root_above {es : List Int} (t : okTree es) : ∀ (n : Nat) (x : Int), x < n → 0 ≤ x → x < es.length → x = 0 ∨ (0 : Int) ∈ aboveM es x
  | 0, x, hn, h0, _ => by omega
  | n + 1, x, hn, h0, h1 => by
    by_cases e : x = 0
    · exact .inl e
    · have he := el_pos t (x := x) (by omega) h1
      right
      show (0 : Int) ∈ upM es (elD es x)
      rw [upM_step t.ok he.1 (by omega)]
      rcases root_above t n (elD es x) (by omega) he.1 (by omega) with e | e
      · rw [e]; exact List.mem_cons_self
      · exact List.mem_cons_of_mem _ e
theorem SubW.whole {es : List Int} {ks : List Str} {op : List Int} (hr : op.Pairwise (· < ·)) (h : SubW es ks 0 (fun x => x ∈ op)) : Whole es ks op := by
  refine ⟨hr, fun x hx => ⟨(h.sub x hx).1, (h.sub x hx).2.1⟩, h.root, fun x hx p => h.up x hx (by omega), fun x hx k => ?_, fun x hx k => ?_⟩
  · obtain ⟨y, h1, h2, h3⟩ := h.one x hx k
    rw [inOp_one h1 fun z hz => ⟨fun pz => h3 z hz pz, fun e => by rw [e]; exact h2⟩]; rfl
  · have : inOp es op x = innerM es x := by
      unfold inOp
      rw [List.filter_eq_self]
      exact fun y hy => decide_eq_true (h.all x hx k y hy)
    rw [this]
-- needs: L_cell_at
theorem u_L_cell_at0 {m : Bool} {ns : List Int} {k : Int} {Q : D → Prop} (h : 0 ≤ k) (q : Q (.int (ns.getD k.toNat 0))) : sp_L_cell_at [lI m ns, .int k] Q := ⟨m, ns, k, rfl, h, q⟩
-- needs: m_walk m_trans m_subw L_above u_cell
theorem chain6 {es : List Int} (ok : okTree es) {k : Int} (h0 : 0 ≤ k) (h1 : k < es.length) : 0 < ((k :: aboveM es k).filter fun x => decide ((aboveM es x).length < 12)).length := by
  have m : (0 : Int) ∈ k :: aboveM es k := by
    rcases root_above ok (k.toNat + 1) k (by omega) h0 h1 with e | e
    · rw [e]; exact List.mem_cons_self
    · exact List.mem_cons_of_mem _ e
  have a0 : aboveM es 0 = [] := by unfold aboveM; rw [ok.root, upM_neg]
  exact List.length_pos_of_mem (List.mem_filter.mpr ⟨m, by rw [a0]; rfl⟩)
def sp_L_elders_6 : SpD := fun ds Q => ∃ m ns many, ds = [lI m ns, .int many] ∧ 1 ≤ many ∧ many ≤ 100 ∧ ∀ es, okTree es → (es.length : Int) = many → Q (lI true es)
theorem len_L_elders_6 : ∀ ds Q, sp_L_elders_6 ds Q → ds.length = 2 := by rintro _ _ ⟨_, _, _, rfl, _⟩; rfl
theorem u_L_elders_6 {m : Bool} {ns : List Int} {many : Int} {Q : D → Prop} (h1 : 1 ≤ many) (h2 : many ≤ 100) (q : ∀ es, okTree es → (es.length : Int) = many → Q (lI true es)) : sp_L_elders_6 [lI m ns, .int many] Q := ⟨m, ns, many, rfl, h1, h2, q⟩
theorem d_L_elders_6 : ∀ ds Q, sp_L_elders_6 ds Q → w_L_elders_6 sp_L_above sp_L_cell_at { nx := fun _ => Q .non, rt := fun d _ => Q d } (env0 6 ds) := by
  rintro _ Q ⟨m, ns, many, rfl, m1, m9, q⟩
  unfold w_L_elders_6
  refine sq_i ?_
  walk_at "vx"
  refine sq_i ?_
  refine for_rng2 (lo := 1) (j := many) (fun Q q => by walk_at "vx"; exact q) (by omega) (by omega) (by omega) (by omega)
    (fun k env => ∃ es o4, env = [some (lI m ns), some (.int many), some (lI true es), o4.1, o4.2, none] ∧ okTree es ∧ (es.length : Int) = k) ⟨[-1], (_, _), rfl, okTree_start, rfl⟩ ?_ ?_
  · rintro k _ hk1 hk2 ⟨es, ⟨o3, o4⟩, rfl, ok, le⟩
    have hm := ok.most
    have ho := ok.ok
    refine sq_i ?_
    walk_at "vx"
    have hal := aboveM_len ho (k := k - 1) (by omega) (by omega)
    refine u_L_above ho hm (by omega) (by omega) ⟨.inl (aloL_lI _), ?_⟩
    walk_at "wx"
    refine ⟨by omega, ?_⟩
    refine sq_i ?_
    walk_at "vx"
    refine lc_ints (ns := (k - 1) :: aboveM es (k - 1)) (fun Q q => by walk_at "vx"; exact q) (fun x => decide ((aboveM es x).length < 12)) D.int (fun x hx => ?_) (fun x hx _ => by walk_at "vx") (by show _ ≤ (16777216 : Nat); rw [List.length_cons]; omega) ?_
    · have hb : 0 ≤ x ∧ x < es.length := by
        rcases List.mem_cons.mp hx with rfl | hx
        · omega
        · have := aboveM_mem ho (by omega) (by omega) hx; omega
      walk_at "vx"
      refine u_L_above ho hm hb.1 hb.2 ⟨.inl (aloL_lI _), ?_⟩
      walk_at "wx"
      exact decide_eq_decide.mpr (by omega)
    have hpos := chain6 ok (k := k - 1) (by omega) (by omega)
    have hin : ∀ x ∈ ((k - 1) :: aboveM es (k - 1)).filter (fun x => decide ((aboveM es x).length < 12)), x ∈ (k - 1) :: aboveM es (k - 1) ∧ (aboveM es x).length < 12 := fun x m => by
      obtain ⟨m1, m2⟩ := List.mem_filter.mp m
      exact ⟨m1, of_decide_eq_true m2⟩
    generalize ((k - 1) :: aboveM es (k - 1)).filter (fun x => decide ((aboveM es x).length < 12)) = rs at hpos hin ⊢
    refine ⟨by omega, u_L_cell_at0 (by omega) ⟨.inl rfl, ?_⟩⟩
    generalize ns.getD k.toNat 0 = c
    have e0 := Int.emod_nonneg c (show ((rs.length : Nat) : Int) ≠ 0 by omega)
    have e1 := Int.emod_lt_of_pos c (show (0 : Int) < (rs.length : Nat) by omega)
    walk_at "vx"
    refine ⟨by omega, ix_lI e0 e1 ⟨rfl, ?_⟩⟩
    have hx := hin _ (getD_mem (xs := rs) (k := (c % ((rs.length : Nat) : Int)).toNat) (d := 0) (by omega))
    generalize rs.getD (c % ((rs.length : Nat) : Int)).toNat 0 = x at hx
    have hb : 0 ≤ x ∧ x < es.length := by
      rcases List.mem_cons.mp hx.1 with rfl | hx
      · omega
      · have := aboveM_mem ho (by omega) (by omega) hx; omega
    refine ⟨es ++ [x], (_, _), by rw [lI_snoc], ok.grow (by omega) ?_ ?_, by simp [le]⟩
    · rw [show (es.length : Int) - 1 = k - 1 by omega]
      exact hx.1
    · rw [upM_step ho hb.1 hb.2, List.length_cons]; omega
  · rintro _ ⟨es, ⟨o3, o4⟩, rfl, ok, le⟩
    rw [if_pos (by omega)] at le
    walk_at "vx"
    exact q es ok le
-- needs: m_cell m_trans
theorem getD_snoc {α : Type} (xs : List α) (x d : α) (k : Nat) : (xs ++ [x]).getD k d = if k = xs.length then x else xs.getD k d := by
  by_cases h : k < xs.length
  · rw [if_neg (by omega), List.getD_eq_getElem?_getD, List.getElem?_append_left h, ← List.getD_eq_getElem?_getD]
  · by_cases e : k = xs.length
    · subst e; simp [List.getD]
    · rw [if_neg e, List.getD_eq_getElem?_getD, List.getD_eq_getElem?_getD, List.getElem?_eq_none (by simp; omega), List.getElem?_eq_none (by omega)]
theorem kdM_snoc (ks : List Str) (x : Str) (k : Nat) : kdM (ks ++ [x]) k = if k = ks.length then x else kdM ks k := by
  unfold kdM; rw [Int.toNat_natCast]; exact getD_snoc _ _ _ _
theorem elD_snoc (ks : List Int) (x : Int) (k : Nat) : elD (ks ++ [x]) k = if k = ks.length then x else elD ks k := by
  unfold elD; rw [Int.toNat_natCast]; exact getD_snoc _ _ _ _
def sp_Tree_init : SpM := fun ds Q => ∃ m1 m2 m3 a b c, ds = [.obj true "Tree" [] [], .lst m1 a, .lst m2 b, .lst m3 c] ∧ noOwnL a = true ∧ noOwnL b = true ∧ noOwnL c = true ∧
  Q .non [.obj true "Tree" ["kinds", "elders", "starts"] [.lst true a, .lst true b, .lst true c], .lst m1 a, .lst m2 b, .lst m3 c]
theorem len_Tree_init : ∀ ds Q, sp_Tree_init ds Q → ds.length = 4 := by rintro _ _ ⟨_, _, _, _, _, _, rfl, _⟩; rfl
theorem n_ke : ¬ (("kinds" : Str) = "elders") := by decide +kernel
theorem n_ks : ¬ (("kinds" : Str) = "starts") := by decide +kernel
theorem n_es : ¬ (("elders" : Str) = "starts") := by decide +kernel
theorem d_Tree_init : ∀ ds Q, sp_Tree_init ds Q → w_Tree_init { nx := fun env => ∃ ds', backD [0] env 0 ds = some ds' ∧ Q .non ds', rt := fun d env => ∃ ds', backD [0] env 0 ds = some ds' ∧ Q d ds' } (env0 4 ds) := by
  rintro _ Q ⟨m1, m2, m3, a, b, c, rfl, na, nb, nc, q⟩
  unfold w_Tree_init
  refine sq_i ?_
  walk_at "vx"
  refine ⟨na, by decide +kernel, by decide, ?_⟩
  rw [show putN "kinds" [] = [("kinds" : Str)] from rfl, show putX "kinds" (D.lst true a) [] [] = [.lst true a] from rfl]
  refine sq_i ?_
  walk_at "vx"
  refine ⟨nb, by decide +kernel, by decide, ?_⟩
  rw [show putN "elders" [("kinds" : Str)] = [("kinds" : Str), "elders"] from if_neg n_ke, show putX "elders" (D.lst true b) [("kinds" : Str)] [.lst true a] = [.lst true a, .lst true b] from if_neg n_ke]
  walk_at "vx"
  refine ⟨nc, by decide +kernel, by decide, _, rfl, ?_⟩
  rw [show putN "starts" [("kinds" : Str), "elders"] = [("kinds" : Str), "elders", "starts"] by rw [putN, if_neg n_ks, putN, if_neg n_es]; rfl, show putX "starts" (D.lst true c) [("kinds" : Str), "elders"] [.lst true a, .lst true b] = [.lst true a, .lst true b, .lst true c] by rw [putX, if_neg n_ks, putX, if_neg n_es]; rfl]
  exact q
/-! ### attributes put into a new object -/
theorem putN_new {f : Str} : ∀ {ns : List Str}, (∀ n ∈ ns, n ≠ f) → putN f ns = ns ++ [f]
  | [], _ => rfl
  | n :: ns, h => by
    rw [putN, if_neg (h n List.mem_cons_self), putN_new fun x m => h x (List.mem_cons_of_mem _ m)]; rfl
theorem putX_new {α : Type} {f : Str} {x : α} : ∀ {ns : List Str} {xs : List α}, ns.length = xs.length → (∀ n ∈ ns, n ≠ f) → putX f x ns xs = xs ++ [x]
  | [], [], _, _ => rfl
  | [], _ :: _, l, _ => by simp at l
  | _ :: _, [], l, _ => by simp at l
  | n :: ns, y :: ys, l, h => by
    rw [putX, if_neg (h n List.mem_cons_self), putX_new (by simpa using l) fun x m => h x (List.mem_cons_of_mem _ m)]; rfl
-- needs: m_put m_tree Tree_init
def chN : List Str := ["boxes", "names", "tree", "ins", "outs", "ways"]
def sp_Chart_init : SpM := fun ds Q => ∃ m1 m2 m3 m4 m5 m6 bs nm ks es ss il ol wl, ds = [.obj true "Chart" [] [], .lst m1 bs, .lst m2 nm, treeD m3 ks es ss, .lst m4 il, .lst m5 ol, .lst m6 wl] ∧
  noOwnL bs = true ∧ noOwnL nm = true ∧ noOwnL il = true ∧ noOwnL ol = true ∧ noOwnL wl = true ∧
  Q .non [.obj true "Chart" chN [.lst true bs, .lst true nm, treeD true ks es ss, .lst true il, .lst true ol, .lst true wl], .lst m1 bs, .lst m2 nm, treeD m3 ks es ss, .lst m4 il, .lst m5 ol, .lst m6 wl]
theorem len_Chart_init : ∀ ds Q, sp_Chart_init ds Q → ds.length = 7 := by rintro _ _ ⟨_, _, _, _, _, _, _, _, _, _, _, _, _, _, rfl, _⟩; rfl
theorem chN_ne : (("boxes" : Str) ≠ "names" ∧ ("boxes" : Str) ≠ "tree" ∧ ("boxes" : Str) ≠ "ins" ∧ ("boxes" : Str) ≠ "outs" ∧ ("boxes" : Str) ≠ "ways") ∧ (("names" : Str) ≠ "tree" ∧ ("names" : Str) ≠ "ins" ∧ ("names" : Str) ≠ "outs" ∧ ("names" : Str) ≠ "ways") ∧
  (("tree" : Str) ≠ "ins" ∧ ("tree" : Str) ≠ "outs" ∧ ("tree" : Str) ≠ "ways") ∧ (("ins" : Str) ≠ "outs" ∧ ("ins" : Str) ≠ "ways") ∧ ("outs" : Str) ≠ "ways" := by decide +kernel
theorem d_Chart_init : ∀ ds Q, sp_Chart_init ds Q → w_Chart_init sp_Tree_init { nx := fun env => ∃ ds', backD [0] env 0 ds = some ds' ∧ Q .non ds', rt := fun d env => ∃ ds', backD [0] env 0 ds = some ds' ∧ Q d ds' } (env0 7 ds) := by
  rintro _ Q ⟨m1, m2, m3, m4, m5, m6, bs, nm, ks, es, ss, il, ol, wl, rfl, n1, n2, n4, n5, n6, q⟩
  obtain ⟨⟨a1, a2, a3, a4, a5⟩, ⟨b2, b3, b4, b5⟩, ⟨c3, c4, c5⟩, ⟨d4, d5⟩, e5⟩ := chN_ne
  unfold w_Chart_init
  refine sq_i ?_
  walk_at "vx"
  refine ⟨n1, by decide +kernel, by decide, ?_⟩
  rw [putN_new (by simp), putX_new (by simp) (by simp)]
  refine sq_i ?_
  walk_at "vx"
  refine ⟨n2, by decide +kernel, by decide, ?_⟩
  rw [putN_new (by simpa using a1), putX_new (by simp) (by simpa using a1)]
  refine sq_i ?_
  walk_at "vt"
  simp only [frzL_str]
  refine ⟨_, _, _, _, _, _, rfl, noOwnL_str ks, noOwn_lI es, noOwn_lI ss, _, _, rfl, rfl, ?_⟩
  rw [show D.obj true "Tree" ["kinds", "elders", "starts"] [.lst true (ks.map .str), .lst true (es.map .int), .lst true (ss.map .int)] = treeD true ks es ss from rfl]
  refine ⟨Or.inl (alo_tree ks es ss), by decide +kernel, by decide, ?_⟩
  rw [putN_new (by simpa using ⟨a2, b2⟩), putX_new (by simp) (by simpa using ⟨a2, b2⟩)]
  refine sq_i ?_
  walk_at "vx"
  refine ⟨n4, by decide +kernel, by decide, ?_⟩
  rw [putN_new (by simpa using ⟨a3, b3, c3⟩), putX_new (by simp) (by simpa using ⟨a3, b3, c3⟩)]
  refine sq_i ?_
  walk_at "vx"
  rw [putN_new (f := "outs") (by simpa using ⟨a4, b4, c4, d4⟩), putX_new (f := "outs") (by simp) (by simpa using ⟨a4, b4, c4, d4⟩)]
  simp only [List.cons_append, List.nil_append]
  rw [putN_new (f := "ways") (by simpa using ⟨a5, b5, c5, d5, e5⟩), putX_new (f := "ways") (by simp) (by simpa using ⟨a5, b5, c5, d5, e5⟩)]
  exact ⟨n5, by decide +kernel, by decide, n6, by decide +kernel, by decide, _, rfl, q⟩
-- needs: m_tree Tree_init Chart_init
/-! ### charts as data -/
def chartD (m : Bool) (bs nm : List D) (t : D) (il ol wl : List D) : D := .obj m "Chart" chN [.lst m bs, .lst m nm, t, .lst m il, .lst m ol, .lst m wl]
theorem bq_ch : (("names" : Str) == "boxes") = false ∧ (("tree" : Str) == "boxes") = false ∧ (("ins" : Str) == "boxes") = false ∧ (("outs" : Str) == "boxes") = false ∧ (("ways" : Str) == "boxes") = false ∧
  (("tree" : Str) == "names") = false ∧ (("ins" : Str) == "names") = false ∧ (("outs" : Str) == "names") = false ∧ (("ways" : Str) == "names") = false ∧
  (("ins" : Str) == "tree") = false ∧ (("outs" : Str) == "tree") = false ∧ (("ways" : Str) == "tree") = false ∧ (("outs" : Str) == "ins") = false ∧ (("ways" : Str) == "ins") = false ∧ (("ways" : Str) == "outs") = false := by decide +kernel
section
variable (m : Bool) (bs nm : List D) (t : D) (il ol wl : List D) (Q : D → Prop)
theorem cfld_boxes : dFld "boxes" (chartD m bs nm t il ol wl) Q = Q (.lst m bs) := by
  unfold chartD dFld chN
  simp only [List.zip_cons_cons, List.lookup_cons, beq_self_eq_true, Option.some.injEq, exists_eq_left']
theorem cfld_names : dFld "names" (chartD m bs nm t il ol wl) Q = Q (.lst m nm) := by
  obtain ⟨h1, h2, h3, h4, h5, h6, h7, h8, h9, h10, h11, h12, h13, h14, h15⟩ := bq_ch
  unfold chartD dFld chN
  simp only [List.zip_cons_cons, List.lookup_cons, h1, beq_self_eq_true, Option.some.injEq, exists_eq_left']
theorem cfld_tree : dFld "tree" (chartD m bs nm t il ol wl) Q = Q t := by
  obtain ⟨h1, h2, h3, h4, h5, h6, h7, h8, h9, h10, h11, h12, h13, h14, h15⟩ := bq_ch
  unfold chartD dFld chN
  simp only [List.zip_cons_cons, List.lookup_cons, h2, h6, beq_self_eq_true, Option.some.injEq, exists_eq_left']
theorem cfld_ins : dFld "ins" (chartD m bs nm t il ol wl) Q = Q (.lst m il) := by
  obtain ⟨h1, h2, h3, h4, h5, h6, h7, h8, h9, h10, h11, h12, h13, h14, h15⟩ := bq_ch
  unfold chartD dFld chN
  simp only [List.zip_cons_cons, List.lookup_cons, h3, h7, h10, beq_self_eq_true, Option.some.injEq, exists_eq_left']
theorem cfld_outs : dFld "outs" (chartD m bs nm t il ol wl) Q = Q (.lst m ol) := by
  obtain ⟨h1, h2, h3, h4, h5, h6, h7, h8, h9, h10, h11, h12, h13, h14, h15⟩ := bq_ch
  unfold chartD dFld chN
  simp only [List.zip_cons_cons, List.lookup_cons, h4, h8, h11, h13, beq_self_eq_true, Option.some.injEq, exists_eq_left']
theorem cfld_ways : dFld "ways" (chartD m bs nm t il ol wl) Q = Q (.lst m wl) := by
  obtain ⟨h1, h2, h3, h4, h5, h6, h7, h8, h9, h10, h11, h12, h13, h14, h15⟩ := bq_ch
  unfold chartD dFld chN
  simp only [List.zip_cons_cons, List.lookup_cons, h5, h9, h12, h14, h15, beq_self_eq_true, Option.some.injEq, exists_eq_left']
theorem frz_chart : frz (chartD m bs nm t il ol wl) = chartD false (frzL bs) (frzL nm) (frz t) (frzL il) (frzL ol) (frzL wl) := by
  unfold chartD
  simp only [frz, frzL]
end
local macro_rules | `(tactic| walk_at "vc") => `(tactic| repeat (first | simp only [cfld_boxes, cfld_names, cfld_tree, cfld_ins, cfld_outs, cfld_ways, frz_chart, fld_kinds, fld_elders, fld_starts, frz_tree, alo_tree, noOwn_tree] | walk_at "vx"))
/-! ### asks, rows of deeds -/
def dsD (ds : List Deed) : D := .tup (ds.map dD)
inductive Ask where
  | op (b : Bool) (k : Int)
  | nu (m : Mrk) (a b : Int × Int)
def askD2 : Ask → D
  | .op b k => .tup [.str (if b then "open" else "shut"), .int k]
  | .nu m a b => .tup [.str (mS m), tD a.1 a.2, tD b.1 b.2]
def okTm (boxes : Int) (t : Int × Int) : Prop := t.1 = -1 ∨ 0 ≤ t.1 ∧ t.1 < boxes
def okAsk (many boxes : Int) : Ask → Prop
  | .op _ k => 0 ≤ k ∧ k < many
  | .nu _ a b => okTm boxes a ∧ okTm boxes b
theorem noOwn_dsD (ds : List Deed) : noOwn (dsD ds) = true := noOwnL_map dD noOwn_dD ds
theorem noOwn_ask (a : Ask) : noOwn (askD2 a) = true := by cases a <;> rfl
theorem alo_dD (d : Deed) : alo (dD d) = true := by cases d <;> rfl
theorem alo_dsD (ds : List Deed) : alo (dsD ds) = true := aloL_map dD alo_dD ds
theorem alo_ask (a : Ask) : alo (askD2 a) = true := by cases a <;> rfl
theorem noOwnL_dsD (l : List (List Deed)) : noOwnL (l.map dsD) = true := noOwnL_map dsD noOwn_dsD l
theorem aloL_dsD (l : List (List Deed)) : aloL (l.map dsD) = true := aloL_map dsD alo_dsD l
theorem frzL_dsD (l : List (List Deed)) : frzL (l.map dsD) = l.map dsD := frzL_id _ (noOwnL_dsD l)
/-! ### the parts of a chart -/
structure Way where
  src : Int
  sign : Str
  asks : List Ask
  deeds : List Deed
  tgt : Int
  mode : Str
def wayD (w : Way) : D := .tup [.int w.src, .str w.sign, .tup (w.asks.map askD2), dsD w.deeds, .int w.tgt, .str w.mode]
def okWay (many boxes : Int) (w : Way) : Prop :=
  (0 ≤ w.src ∧ w.src < many) ∧ PyData.strOk w.sign = true ∧ (w.asks.length ≤ 2 ∧ ∀ a ∈ w.asks, okAsk many boxes a) ∧ (w.deeds.length ≤ 2 ∧ ∀ d ∈ w.deeds, okDe boxes d) ∧ ((w.tgt = -1 ∧ w.mode = "new") ∨ (0 ≤ w.tgt ∧ w.tgt < many ∧ okMode w.mode))
structure Parts where
  bx : List Int
  es : List Int
  ks : List Str
  ss : List Int
  ins : List (List Deed)
  outs : List (List Deed)
  ways : List Way
def okDeeds (boxes : Int) (n : Nat) (l : List (List Deed)) : Prop := l.length = n ∧ ∀ ds ∈ l, ds.length ≤ 2 ∧ ∀ d ∈ ds, okDe boxes d
structure okParts (p : Parts) : Prop where
  tree : okTree p.es
  kk : okKs p.es p.ks
  hs : okCh p.es p.ks p.ss
  bl : p.bx.length ≤ 3
  ins : okDeeds p.bx.length p.es.length p.ins
  outs : okDeeds p.bx.length p.es.length p.outs
  wl : p.ways.length ≤ 8
  ws : ∀ w ∈ p.ways, okWay p.es.length p.bx.length w
theorem noOwn_way (w : Way) : noOwn (wayD w) = true := by
  unfold wayD
  simp only [noOwn, noOwnL, noOwn_dsD, noOwnL_map askD2 noOwn_ask, Bool.and_true, Bool.true_and]
theorem alo_way (w : Way) : alo (wayD w) = true := by
  unfold wayD
  simp only [alo, aloL, alo_dsD, aloL_map askD2 alo_ask, Bool.and_true, Bool.true_and]
theorem noOwnL_way (l : List Way) : noOwnL (l.map wayD) = true := noOwnL_map wayD noOwn_way l
theorem aloL_way (l : List Way) : aloL (l.map wayD) = true := aloL_map wayD alo_way l
theorem frzL_way (l : List Way) : frzL (l.map wayD) = l.map wayD := frzL_id _ (noOwnL_way l)
/-! ### deeds by the cells -/
/-! ### names -/
def wordsL : List Str := ["all", "and", "box", "call", "do", "far", "if", "in", "leaf", "near", "on", "one", "open", "out", "put", "say", "shut", "then", "to"]
def letL : Str := "abcdefghijklmnopqrstuvwxyz"
def figL : Str := "0123456789"
def sgn (c : Nat) : Str := ⟨#[c]⟩
def isNameM (t : Str) : Bool := !decide (t = "") && (decide (t.length ≤ 12) && (!decide (t ∈ wordsL) && (decide (t.cps.toList.getD 0 0 ∈ letL.cps.toList) && t.cps.toList.all fun c => decide (c ∈ letL.cps.toList) || decide (c ∈ figL.cps.toList))))
theorem m_strs (xs : List Str) (o : Str) : ((xs.map D.str).any fun d => deq d (.str o)) = decide (o ∈ xs) := by
  induction xs with
  | nil => rfl
  | cons x xs ih =>
    rw [List.map_cons, List.any_cons, ih, deq_str]
    by_cases h : x = o
    · subst h; simp
    · rw [decide_eq_false h, Bool.false_or]
      simp only [List.mem_cons, show ¬ o = x from fun e => h e.symm, false_or]
theorem m_flat (xs : List Str) : (xs.map D.str).all flatD = true := by
  rw [List.all_map, List.all_eq_true]
  exact fun _ _ => rfl
theorem str_nil {t : Str} : t = "" ↔ t.length = 0 := by
  constructor
  · rintro rfl; rfl
  · intro h
    obtain ⟨a⟩ := t
    have h : a.size = 0 := h
    rw [Array.size_eq_zero_iff] at h
    subst h; rfl
theorem len_cps (t : Str) : t.cps.toList.length = t.length := Array.length_toList
theorem mem_let (c : Nat) : c ∈ letL.cps.toList ↔ 97 ≤ c ∧ c ≤ 122 := by
  have : letL.cps.toList = (List.range 26).map (97 + ·) := by decide +kernel
  rw [this, List.mem_map]
  constructor
  · rintro ⟨k, m, rfl⟩; have := List.mem_range.mp m; omega
  · rintro ⟨h1, h2⟩; exact ⟨c - 97, List.mem_range.mpr (by omega), by omega⟩
theorem mem_fig (c : Nat) : c ∈ figL.cps.toList ↔ 48 ≤ c ∧ c ≤ 57 := by
  have : figL.cps.toList = (List.range 10).map (48 + ·) := by decide +kernel
  rw [this, List.mem_map]
  constructor
  · rintro ⟨k, m, rfl⟩; have := List.mem_range.mp m; omega
  · rintro ⟨h1, h2⟩; exact ⟨c - 48, List.mem_range.mpr (by omega), by omega⟩
-- needs: m_openM
def modeM (c : Int) : Str := (["new", "near", "far"] : List Str).getD c.toNat ""
theorem modeM_ok {c : Int} (h0 : 0 ≤ c) (h1 : c < 3) : okMode (modeM c) := by
  have : c = 0 ∨ c = 1 ∨ c = 2 := by omega
  rcases this with rfl | rfl | rfl
  · exact .inl rfl
  · exact .inr (.inl rfl)
  · exact .inr (.inr rfl)
/-! ### charts drawn by two cells each (k20, k22, k24, k62) -/
def okNm (s : Str) : Prop := PyData.strOk s = true ∧ s.length ≤ 40
def okNb (x : Int) : Prop := -(10 ^ 30) < x ∧ x < 10 ^ 30
def okTmB (nb : Int) (t : Int × Int) : Prop := (t.1 = -1 ∨ 0 ≤ t.1 ∧ t.1 < nb) ∧ okNb t.2
def okDeB (nb : Int) : Deed → Prop
  | .put b t => (0 ≤ b ∧ b < nb) ∧ okTmB nb t
  | .call n => okNm n
  | .say n t => okNm n ∧ okTmB nb t
def okAskB (many nb : Int) : Ask → Prop
  | .op _ k => 0 ≤ k ∧ k < many
  | .nu _ a b => okTmB nb a ∧ okTmB nb b
structure okWayB (many nb : Int) (w : Way) : Prop where
  src : 0 ≤ w.src ∧ w.src < many
  sign : okNm w.sign
  asks : w.asks.length ≤ 41 ∧ ∀ a ∈ w.asks, okAskB many nb a
  deeds : w.deeds.length ≤ 41 ∧ ∀ d ∈ w.deeds, okDeB nb d
  tgt : (w.tgt = -1 ∧ w.mode = "new") ∨ (0 ≤ w.tgt ∧ w.tgt < many ∧ okMode w.mode)
structure PB where
  bx : List (Str × Int)
  nm : List Str
  ks : List Str
  es : List Int
  ss : List Int
  ins : List (List Deed)
  outs : List (List Deed)
  ways : List Way
def bxP (b : Str × Int) : D := .tup [.str b.1, .int b.2]
def okDss (nb : Int) (n : Nat) (l : List (List Deed)) : Prop := l.length = n ∧ ∀ ds ∈ l, ds.length ≤ 41 ∧ ∀ d ∈ ds, okDeB nb d
structure okPB (P : PB) : Prop where
  tree : okTree P.es
  many : P.es.length ≤ 41
  kk : okKs P.es P.ks
  hs : okCh P.es P.ks P.ss
  bl : P.bx.length ≤ 3
  bx : ∀ b ∈ P.bx, okNm b.1 ∧ okNb b.2
  nl : P.nm.length = P.es.length
  nm : ∀ s ∈ P.nm, okNm s
  ins : okDss P.bx.length P.es.length P.ins
  outs : okDss P.bx.length P.es.length P.outs
  wl : P.ways.length ≤ 41
  ways : ∀ w ∈ P.ways, okWayB P.es.length P.bx.length w
theorem noOwn_bxP (b : Str × Int) : noOwn (bxP b) = true := rfl
theorem frzL_bxP (l : List (Str × Int)) : frzL (l.map bxP) = l.map bxP := frzL_id _ (noOwnL_map bxP noOwn_bxP l)
def sp_L_kinds_3 : SpD := fun ds Q => ∃ (m m2 : Bool) (ns es : List Int), ds = [lI m ns, lI m2 es] ∧ es.length ≤ 150 ∧ ∀ ks ss, okKs es ks → okCh es ks ss → Q (.tup [.lst true (ks.map .str), lI true ss])
theorem len_L_kinds_3 : ∀ ds Q, sp_L_kinds_3 ds Q → ds.length = 2 := by rintro _ _ ⟨_, _, _, _, rfl, _⟩; rfl
theorem u_L_kinds_3 {m m2 : Bool} {ns es : List Int} {Q : D → Prop} (h1 : es.length ≤ 150) (q : ∀ ks ss, okKs es ks → okCh es ks ss → Q (.tup [.lst true (ks.map .str), lI true ss])) : sp_L_kinds_3 [lI m ns, lI m2 es] Q := ⟨m, m2, ns, es, rfl, h1, q⟩
theorem set_snoc {α : Type} (xs : List α) (x y : α) : (xs ++ [x]).set xs.length y = xs ++ [y] := by
  rw [List.set_append_right _ _ (Nat.le_refl _), Nat.sub_self]; rfl
theorem d_L_kinds_3 : ∀ ds Q, sp_L_kinds_3 ds Q → w_L_kinds_3 sp_L_cell_at { nx := fun _ => Q .non, rt := fun d _ => Q d } (env0 7 ds) := by
  rintro _ Q ⟨m, m2, ns, es, rfl, h1, q⟩
  unfold w_L_kinds_3
  refine sq_i ?_
  walk_at "vx"
  refine sq_i ?_
  walk_at "vx"
  refine sq_i ?_
  refine for_rng1 (j := (es.length : Int)) (fun Q q => by walk_at "vx"; exact q) (by omega) (by omega)
    (fun k env => ∃ ks ss o4 o5, env = [some (lI m ns), some (lI m2 es), some (.lst true (ks.map .str)), some (lI true ss), o4, o5, none] ∧ ks.length = k ∧ ss.length = k ∧
      ∀ j < k, ((innerM es j = [] ∧ kdM ks j = "leaf") ∨ (innerM es j ≠ [] ∧ (kdM ks j = "all" ∨ kdM ks j = "one"))) ∧ ((kdM ks j = "one" → elD ss j ∈ innerM es j) ∧ (kdM ks j ≠ "one" → elD ss j = -1))) ⟨[], [], _, _, rfl, rfl, rfl, fun j h => by omega⟩ ?_ ?_
  · rintro k _ hk ⟨ks, ss, o4, o5, rfl, lk, ls, hj⟩
    have step : ∀ (x : Str) (s : Int) (p4 p5 : Option D), ((innerM es k = [] ∧ x = "leaf") ∨ (innerM es k ≠ [] ∧ (x = "all" ∨ x = "one"))) → ((x = "one" → s ∈ innerM es k) ∧ (x ≠ "one" → s = -1)) →
        ∃ ks' ss' q4 q5, ([some (lI m ns), some (lI m2 es), some (.lst true (ks.map .str ++ [.str x])), some (.lst true (ss.map .int ++ [.int s])), p4, p5, none] : Env) = [some (lI m ns), some (lI m2 es), some (.lst true (ks'.map .str)), some (lI true ss'), q4, q5, none] ∧ ks'.length = k + 1 ∧ ss'.length = k + 1 ∧
      ∀ j < k + 1, ((innerM es j = [] ∧ kdM ks' j = "leaf") ∨ (innerM es j ≠ [] ∧ (kdM ks' j = "all" ∨ kdM ks' j = "one"))) ∧ ((kdM ks' j = "one" → elD ss' j ∈ innerM es j) ∧ (kdM ks' j ≠ "one" → elD ss' j = -1)) := by
      intro x s p4 p5 a1 a2
      refine ⟨ks ++ [x], ss ++ [s], _, _, by rw [lI_snoc, List.map_append]; rfl, by simp [lk], by simp [ls], fun j h => ?_⟩
      rw [kdM_snoc, elD_snoc, lk, ls]
      by_cases e : j = k
      · subst e; rw [if_pos rfl, if_pos rfl]; exact ⟨a1, a2⟩
      · rw [if_neg e, if_neg e]; exact hj j (by omega)
    refine sq_i ?_
    refine lc_rng1p (j := (es.length : Int)) (fun Q q => by walk_at "vx"; exact q) (by omega) (by omega) (fun a => decide (elD es a = (k : Int))) (fun a => .int a) (fun a ha => ?_) (fun a ha _ => by walk_at "vx") ?_
    · walk_at "vx"
      refine ix_el (by omega) ha ?_
      walk_at "wx"
    rw [show ((List.range ((es.length : Nat) : Int).toNat).filter fun a : Nat => decide (elD es a = (k : Int))).map (fun a : Nat => D.int a) = (innerM es k).map .int by unfold innerM; rw [List.map_map, Int.toNat_natCast]; rfl]
    have hin : ∀ x ∈ innerM es k, x ∈ innerM es k := fun x h => h
    generalize innerM es k = near at step hin ⊢
    show sq_ _ _ _ _
    refine sq_i ?_
    walk_at "vx"
    refine ⟨by omega, ?_⟩
    refine sq_i ?_
    walk_at "vx"
    refine ⟨by omega, ?_⟩
    have hd : deq (.lst true (near.map .int)) (.lst true []) = decide (near = []) := deq_lI true true near []
    have n1 : ("leaf" : Str) ≠ "one" := by decide +kernel
    have n2 : ("all" : Str) ≠ "one" := by decide +kernel
    rw [hd]
    refine ⟨⟨eqOk_lI true near 59, eqOk_lI true [] 59⟩, fun hf => ?_, fun ht => ?_⟩
    · have hne := of_decide_eq_false hf
      have hp : 0 < near.length := List.length_pos_iff.mpr hne
      have hsK : ∀ x y : D, (ks.map D.str ++ [x]).set k y = ks.map D.str ++ [y] := fun x y => by
        have := set_snoc (ks.map D.str) x y
        rwa [List.length_map, lk] at this
      have hsS : ∀ x y : D, (ss.map D.int ++ [x]).set k y = ss.map D.int ++ [y] := fun x y => by
        have := set_snoc (ss.map D.int) x y
        rwa [List.length_map, ls] at this
      have iK : ∀ x : D, ixN (ks.map D.str ++ [x]).length (k : Int) = some k := fun x => ixN_nat (by rw [List.length_append, List.length_map, lk]; exact Nat.lt_succ_self k)
      have iS : ∀ x : D, ixN (ss.map D.int ++ [x]).length (k : Int) = some k := fun x => ixN_nat (by rw [List.length_append, List.length_map, ls]; exact Nat.lt_succ_self k)
      refine u_L_cell_at0 (by omega) ⟨.inl rfl, ?_⟩
      walk_at "wx"
      generalize hc : ns.getD (k : Int).toNat 0 = c
      refine ⟨fun _ => ?_, fun _ => ⟨⟨eqOk_lI true near 59, eqOk_lI true [] 59⟩, fun _ => ?_, fun z => absurd z hne⟩⟩
      · refine ⟨k, iK _, ?_⟩
        rw [hsK]
        exact step _ _ _ _ (.inr ⟨hne, .inl rfl⟩) ⟨fun z => absurd z n2, fun _ => rfl⟩
      · refine sq_i ?_
        walk_at "vx"
        refine ⟨k, iK _, ?_⟩
        rw [hsK]
        refine u_L_cell_at0 (by omega) ⟨.inl rfl, ?_⟩
        walk_at "wx"
        have e0 := Int.emod_nonneg (ns.getD (k : Int).toNat 0 / 26) (show ((near.length : Nat) : Int) ≠ 0 by omega)
        have e1 := Int.emod_lt_of_pos (ns.getD (k : Int).toNat 0 / 26) (show (0 : Int) < (near.length : Nat) by omega)
        have mm : near.getD (ns.getD (k : Int).toNat 0 / 26 % (near.length : Nat)).toNat 0 ∈ near := getD_mem (by omega)
        refine ⟨by omega, ix_lI e0 e1 ⟨rfl, k, iS _, ?_⟩⟩
        rw [hsS]
        exact step _ _ _ _ (.inr ⟨hne, .inr rfl⟩) ⟨fun _ => mm, fun z => absurd rfl z⟩
    · have he := of_decide_eq_true ht
      refine ⟨⟨eqOk_lI true near 59, eqOk_lI true [] 59⟩, fun z => absurd (of_decide_eq_false z) (fun n => n he), fun _ => ?_⟩
      exact step _ _ _ _ (.inl ⟨he, rfl⟩) ⟨fun z => absurd z n1, fun _ => rfl⟩
  · rintro _ ⟨ks, ss, o4, o5, rfl, lk, ls, hj⟩
    walk_at "vx"
    exact q ks ss ⟨by omega, fun j h => (hj j (by omega)).1⟩ ⟨by omega, fun j h => (hj j (by omega)).2⟩
-- needs: m_by m_isname
/-! ### right names -/
theorem let_ok (c : Nat) (h : c ∈ letL.cps.toList ∨ c ∈ figL.cps.toList) : c < 0x110000 := by
  rcases h with h | h
  · have := (mem_let c).mp h; omega
  · have := (mem_fig c).mp h; omega
theorem isName_ok {t : Str} (h : isNameM t = true) : okNm t := by
  unfold isNameM at h
  simp only [Bool.and_eq_true, decide_eq_true_eq, Bool.not_eq_true', List.all_eq_true, Bool.or_eq_true] at h
  obtain ⟨_, h2, _, _, h5⟩ := h
  refine ⟨?_, by omega⟩
  show (t.cps.all _) = true
  rw [← Array.all_toList, List.all_eq_true]
  intro c m
  exact decide_eq_true (let_ok c (h5 c m))
theorem isName_of {t : Str} {x : Nat} {xs : List Nat} (e : t.cps.toList = x :: xs) (hx : x ∈ letL.cps.toList) (hl : xs.length ≤ 11) (ha : ∀ c ∈ x :: xs, c ∈ letL.cps.toList ∨ c ∈ figL.cps.toList) (hf : ∃ c ∈ x :: xs, c ∈ figL.cps.toList) : isNameM t = true := by
  have len : t.length = xs.length + 1 := by rw [← len_cps, e]; rfl
  have hw : ∀ w ∈ wordsL, ∀ c ∈ w.cps.toList, ¬ c ∈ figL.cps.toList := by decide +kernel
  unfold isNameM
  simp only [Bool.and_eq_true, decide_eq_true_eq, Bool.not_eq_true', List.all_eq_true, Bool.or_eq_true, decide_eq_false_iff_not]
  refine ⟨fun z => ?_, by omega, fun z => ?_, ?_, ?_⟩
  · have := str_nil.mp z; omega
  · obtain ⟨c, m, h⟩ := hf
    exact hw t z c (by rw [e]; exact m) h
  · rw [e]; exact hx
  · rw [e]; exact ha
theorem cps_app (a b : Str) : (a ++ b).cps.toList = a.cps.toList ++ b.cps.toList := by
  show (a.cps ++ b.cps).toList = _
  exact Array.toList_append
theorem cps_cut (z : Str) {n : Int} (h : 0 ≤ n) : (cutS z none (some n)).cps.toList = z.cps.toList.take n.toNat := by
  have e : (cutS z none (some n)).cps.toList = cutD z.cps.toList none (some n) := rfl
  rw [e, cutD_to _ h]
theorem fig_at (d : Int) (h0 : 0 ≤ d) (h1 : d < 10) : (Str.ofString (toString d)).cps.toList = [48 + d.toNat] := by
  have : ∀ k : _root_.Fin 10, (Str.ofString (toString ((k.val : Nat) : Int))).cps.toList = [48 + k.val] := by decide +kernel
  have := this ⟨d.toNat, by omega⟩
  rw [show (((⟨d.toNat, by omega⟩ : _root_.Fin 10).val : Nat) : Int) = d by show ((d.toNat : Nat) : Int) = d; omega] at this
  exact this
def nzA : Str := "qzvkjwgmxqz"
def nzB : Str := "7z0kjwgm3xq"
theorem let_at (j : Nat) (h : j < 26) : letL.cps.toList.getD j 0 = 97 + j := by
  have : ∀ k : _root_.Fin 26, letL.cps.toList.getD k.val 0 = 97 + k.val := by decide +kernel
  exact this ⟨j, h⟩
def nmSz (c : Int) : Int := 2 + c % 11
def nmAt (c : Int) : Int := c / 11 % (nmSz c - 1)
def nmCo (c k : Int) : Str := (⟨#[letL.cps.toList.getD (k % 26).toNat 0]⟩ : Str) ++ Str.ofString (toString ((k / 26 + c / 121) % 10))
def nmF (c k : Int) : Str := cutS nzA none (some (nmAt c)) ++ nmCo c k ++ cutS nzB none (some (nmSz c - nmAt c - 2))
theorem nmAt_b (c : Int) : 0 ≤ nmAt c ∧ nmAt c + 2 ≤ nmSz c ∧ nmSz c ≤ 12 := by
  have h0 := Int.emod_nonneg c (show (11 : Int) ≠ 0 by decide)
  have h1 := Int.emod_lt_of_pos c (show (0 : Int) < 11 by decide)
  have h2 := Int.emod_nonneg (c / 11) (show (nmSz c - 1 : Int) ≠ 0 by unfold nmSz; omega)
  have h3 := Int.emod_lt_of_pos (c / 11) (show (0 : Int) < nmSz c - 1 by unfold nmSz; omega)
  have e : nmSz c = 2 + c % 11 := rfl
  have e2 : nmAt c = c / 11 % (nmSz c - 1) := rfl
  omega
theorem nmF_cps (c k : Int) : (nmF c k).cps.toList = nzA.cps.toList.take (nmAt c).toNat ++ ([97 + (k % 26).toNat, 48 + ((k / 26 + c / 121) % 10).toNat] ++ nzB.cps.toList.take (nmSz c - nmAt c - 2).toNat) := by
  obtain ⟨b0, b1, b2⟩ := nmAt_b c
  have k0 := Int.emod_nonneg k (show (26 : Int) ≠ 0 by decide)
  have k1 := Int.emod_lt_of_pos k (show (0 : Int) < 26 by decide)
  have f0 := Int.emod_nonneg (k / 26 + c / 121) (show (10 : Int) ≠ 0 by decide)
  have f1 := Int.emod_lt_of_pos (k / 26 + c / 121) (show (0 : Int) < 10 by decide)
  unfold nmF nmCo
  rw [cps_app, cps_app, cps_app, cps_cut _ b0, cps_cut _ (by omega), fig_at _ f0 f1]
  show _ ++ ([letL.cps.toList.getD (k % 26).toNat 0] ++ _) ++ _ = _
  rw [let_at _ (by omega), List.append_assoc]; rfl
theorem nz_in : (∀ c ∈ nzA.cps.toList, c ∈ letL.cps.toList) ∧ (∀ c ∈ nzB.cps.toList, c ∈ letL.cps.toList ∨ c ∈ figL.cps.toList) ∧ nzA.cps.toList.length = 11 ∧ nzB.cps.toList.length = 11 := by decide +kernel
theorem nmF_name (c k : Int) : isNameM (nmF c k) = true := by
  obtain ⟨b0, b1, b2⟩ := nmAt_b c
  obtain ⟨z1, z2, z3, z4⟩ := nz_in
  have k0 := Int.emod_nonneg k (show (26 : Int) ≠ 0 by decide)
  have k1 := Int.emod_lt_of_pos k (show (0 : Int) < 26 by decide)
  have f0 := Int.emod_nonneg (k / 26 + c / 121) (show (10 : Int) ≠ 0 by decide)
  have f1 := Int.emod_lt_of_pos (k / 26 + c / 121) (show (0 : Int) < 10 by decide)
  have e := nmF_cps c k
  have hl : 97 + (k % 26).toNat ∈ letL.cps.toList := (mem_let _).mpr (by omega)
  have hf : 48 + ((k / 26 + c / 121) % 10).toNat ∈ figL.cps.toList := (mem_fig _).mpr (by omega)
  have la : (nzA.cps.toList.take (nmAt c).toNat).length = (nmAt c).toNat := by rw [List.length_take, z3]; omega
  have lb : (nzB.cps.toList.take (nmSz c - nmAt c - 2).toNat).length = (nmSz c - nmAt c - 2).toNat := by rw [List.length_take, z4]; omega
  have inA : ∀ x ∈ nzA.cps.toList.take (nmAt c).toNat, x ∈ letL.cps.toList := fun x m => z1 x (List.mem_of_mem_take m)
  have inB : ∀ x ∈ nzB.cps.toList.take (nmSz c - nmAt c - 2).toNat, x ∈ letL.cps.toList ∨ x ∈ figL.cps.toList := fun x m => z2 x (List.mem_of_mem_take m)
  generalize nzA.cps.toList.take (nmAt c).toNat = A at e la inA
  generalize nzB.cps.toList.take (nmSz c - nmAt c - 2).toNat = B at e lb inB
  generalize 97 + (k % 26).toNat = l at e hl
  generalize 48 + ((k / 26 + c / 121) % 10).toNat = f at e hf
  have all : ∀ x ∈ A ++ ([l, f] ++ B), x ∈ letL.cps.toList ∨ x ∈ figL.cps.toList := fun x m => by
    simp only [List.mem_append, List.mem_cons, List.not_mem_nil, or_false] at m
    rcases m with m | (rfl | rfl) | m
    · exact .inl (inA x m)
    · exact .inl hl
    · exact .inr hf
    · exact inB x m
  cases A with
  | nil => exact isName_of (x := l) (xs := f :: B) e hl (by rw [List.length_cons, lb]; omega) all ⟨f, by simp, hf⟩
  | cons a A => exact isName_of (x := a) (xs := A ++ ([l, f] ++ B)) e (inA a List.mem_cons_self) (by simp only [List.length_cons] at la; simp only [List.length_append, List.length_cons, List.length_nil, lb]; omega) all ⟨f, by simp, hf⟩
theorem nmF_inj {c k j : Int} (h0 : 0 ≤ k) (h1 : k < 150) (g0 : 0 ≤ j) (g1 : j < 150) (e : nmF c k = nmF c j) : k = j := by
  have h : (nmF c k).cps.toList = (nmF c j).cps.toList := by rw [e]
  rw [nmF_cps, nmF_cps] at h
  have h := List.append_cancel_left h
  have h2 := List.cons.inj h
  have h3 := List.cons.inj h2.2
  have a := h2.1
  have b := h3.1
  omega
-- needs: m_rname m_name
theorem letL_len : letL.length = 26 := by decide +kernel
theorem nz_len : nzA.length = 11 ∧ nzB.length = 11 := by decide +kernel
theorem cutS_lenN (z : Str) (lo hi : Option Int) : (cutS z lo hi).length ≤ z.length := by
  show (((z.cps.toList.drop _).take _).toArray).size ≤ z.cps.size
  rw [List.size_toArray, List.length_take, List.length_drop, Array.length_toList]
  omega
theorem log_small {x : Int} (h : x.natAbs < 2 ^ 200) : x.natAbs.log2 < 1920 := by
  by_cases e : x.natAbs = 0
  · rw [e]; decide
  · exact Nat.lt_trans ((Nat.log2_lt e).mpr h) (by decide)
def sp_L_names : SpD := fun ds Q => ∃ c many, ds = [.int c, .int many] ∧ 0 ≤ many ∧ many ≤ 100 ∧ Q (.lst true (((List.range many.toNat).map fun k : Nat => nmF c k).map .str))
theorem len_L_names : ∀ ds Q, sp_L_names ds Q → ds.length = 2 := by rintro _ _ ⟨_, _, rfl, _⟩; rfl
theorem u_L_names {c many : Int} {Q : D → Prop} (h0 : 0 ≤ many) (h1 : many ≤ 100) (q : Q (.lst true (((List.range many.toNat).map fun k : Nat => nmF c k).map .str))) : sp_L_names [.int c, .int many] Q := ⟨c, many, rfl, h0, h1, q⟩
theorem d_L_names : ∀ ds Q, sp_L_names ds Q → w_L_names { nx := fun _ => Q .non, rt := fun d _ => Q d } (env0 8 ds) := by
  rintro _ Q ⟨c, many, rfl, h0, h1, q⟩
  obtain ⟨b0, b1, b2⟩ := nmAt_b c
  unfold w_L_names
  refine sq_i ?_
  walk_at "vx"
  refine sq_i ?_
  walk_at "vx"
  rw [show (2 + c % 11 : Int) = nmSz c from rfl, show c / 11 % (nmSz c - 1) = nmAt c from rfl]
  refine ⟨by omega, ?_⟩
  refine sq_i ?_
  walk_at "vx"
  refine sq_i ?_
  walk_at "vx"
  refine sq_i ?_
  rw [show ("abcdefghijklmnopqrstuvwxyz" : Str) = letL from rfl, show ("qzvkjwgmxqz" : Str) = nzA from rfl, show ("7z0kjwgm3xq" : Str) = nzB from rfl]
  refine for_rng1 (j := many) (fun Q q => by walk_at "vx"; exact q) (by omega) (by omega)
    (fun k env => ∃ o6 o7, env = [some (.int c), some (.int many), some (.int (nmSz c)), some (.int (nmAt c)), some (.str letL), some (.lst true (((List.range k).map fun k : Nat => nmF c k).map .str)), o6, o7]) ⟨_, _, rfl⟩ ?_ ?_
  · rintro k _ hk ⟨o6, o7, rfl⟩
    refine sq_i ?_
    walk_at "vx"
    refine ix_str (by rw [letL_len]; decide) (by omega) (by rw [letL_len]; omega) ?_
    have f0 := Int.emod_nonneg ((k : Int) / 26 + c / 121) (show (10 : Int) ≠ 0 by decide)
    have f1 := Int.emod_lt_of_pos ((k : Int) / 26 + c / 121) (show (0 : Int) < 10 by decide)
    have g1 : (Str.ofString (toString (((k : Int) / 26 + c / 121) % 10))).length = 1 := by rw [← len_cps, fig_at _ f0 f1]; rfl
    have g2 : (⟨#[letL.cps.toList.getD ((k : Int) % 26).toNat 0]⟩ : Str).length = 1 := rfl
    have c1 := cutS_lenN nzA none (some (nmAt c))
    have c2 := cutS_lenN nzB none (some (nmSz c - nmAt c - 2))
    have z1 := nz_len
    rw [show (⟨#[letL.cps.toList.getD ((k : Int) % 26).toNat 0]⟩ : Str) ++ Str.ofString (toString (((k : Int) / 26 + c / 121) % 10)) = nmCo c k from rfl]
    have g3 : (nmCo c k).length = 2 := by unfold nmCo; rw [len_app, g1, g2]
    refine ⟨log_small (Nat.lt_of_lt_of_le (show _ < 10 by omega) (by decide)), by rw [g1, g2]; decide, by rw [List.length_range]; omega, by omega, by omega, by omega, by rw [len_app]; omega, some (.int k), some (.str (nmCo c k)), ?_⟩
    rw [List.range_succ, List.map_append]
    rfl
  · rintro _ ⟨o6, o7, rfl⟩
    walk_at "vx"
    rw [List.map_map] at q
    exact q
-- needs: m_by
def farF (c : Int) : Int := ([0, c / 4 % (2 * 10 ^ 30 - 1) - (10 ^ 30 - 1), 10 ^ 30 - 1, 1 - 10 ^ 30] : List Int).getD (c % 4).toNat 0
theorem farF_ok (c : Int) : okNb (farF c) := by
  have h0 := Int.emod_nonneg (c / 4) (show (2 * 10 ^ 30 - 1 : Int) ≠ 0 by decide)
  have h1 := Int.emod_lt_of_pos (c / 4) (show (0 : Int) < 2 * 10 ^ 30 - 1 by decide)
  unfold farF okNb
  generalize c / 4 % (2 * 10 ^ 30 - 1) = x at h0 h1
  rcases (show c % 4 = 0 ∨ c % 4 = 1 ∨ c % 4 = 2 ∨ c % 4 = 3 by omega) with e | e | e | e <;> rw [e]
  · show -(10 ^ 30) < (0 : Int) ∧ (0 : Int) < 10 ^ 30
    omega
  · show -(10 ^ 30) < x - (10 ^ 30 - 1) ∧ x - (10 ^ 30 - 1) < 10 ^ 30
    omega
  · show -(10 ^ 30) < (10 ^ 30 - 1 : Int) ∧ (10 ^ 30 - 1 : Int) < 10 ^ 30
    omega
  · show -(10 ^ 30) < (1 - 10 ^ 30 : Int) ∧ (1 - 10 ^ 30 : Int) < 10 ^ 30
    omega
def sp_L_far_2 : SpD := fun ds Q => ∃ c, ds = [.int c] ∧ Q (.int (farF c))
theorem len_L_far_2 : ∀ ds Q, sp_L_far_2 ds Q → ds.length = 1 := by rintro _ _ ⟨_, rfl, _⟩; rfl
theorem u_L_far_2 {c : Int} {Q : D → Prop} (q : Q (.int (farF c))) : sp_L_far_2 [.int c] Q := ⟨c, rfl, q⟩
theorem d_L_far_2 : ∀ ds Q, sp_L_far_2 ds Q → w_L_far_2 { nx := fun _ => Q .non, rt := fun d _ => Q d } (env0 2 ds) := by
  rintro _ Q ⟨c, rfl, q⟩
  unfold w_L_far_2
  refine sq_i ?_
  walk_at "vx"
  refine ⟨by decide, ?_⟩
  walk_at "wx"
  exact ix_map (f := D.int) (xs := [0, c / 4 % (2 * 10 ^ 30 - 1) - (10 ^ 30 - 1), 10 ^ 30 - 1, 1 - 10 ^ 30]) 0 (by omega) (show _ < (4 : Int) by omega) ⟨rfl, q⟩
-- needs: L_far_2
def termF (c many : Int) : Int × Int := (c % (many + 1) - 1, farF (c / (many + 1)))
theorem termF_ok (c : Int) {many : Int} (h : 0 ≤ many) : okTmB many (termF c many) := by
  have h0 := Int.emod_nonneg c (show many + 1 ≠ 0 by omega)
  have h1 := Int.emod_lt_of_pos c (show 0 < many + 1 by omega)
  refine ⟨?_, farF_ok _⟩
  show c % (many + 1) - 1 = -1 ∨ 0 ≤ c % (many + 1) - 1 ∧ c % (many + 1) - 1 < many
  omega
def sp_L_term_3 : SpD := fun ds Q => ∃ c many, ds = [.int c, .int many] ∧ 0 ≤ many ∧ many ≤ 1000 ∧ Q (tD (termF c many).1 (termF c many).2)
theorem len_L_term_3 : ∀ ds Q, sp_L_term_3 ds Q → ds.length = 2 := by rintro _ _ ⟨_, _, rfl, _⟩; rfl
theorem u_L_term_3 {c many : Int} {Q : D → Prop} (h : 0 ≤ many) (h1 : many ≤ 1000) (q : Q (tD (termF c many).1 (termF c many).2)) : sp_L_term_3 [.int c, .int many] Q := ⟨c, many, rfl, h, h1, q⟩
theorem d_L_term_3 : ∀ ds Q, sp_L_term_3 ds Q → w_L_term_3 sp_L_far_2 { nx := fun _ => Q .non, rt := fun d _ => Q d } (env0 2 ds) := by
  rintro _ Q ⟨c, many, rfl, h, h1, q⟩
  unfold w_L_term_3
  walk_at "vx"
  exact ⟨by omega, ⟨by omega, by omega⟩, u_L_far_2 q⟩
-- needs: m_by m_isname
def nmDe : Deed → Prop
  | .put _ _ => True
  | .call n => isNameM n = true
  | .say n _ => isNameM n = true
-- needs: L_term_3 m_rname m_nmde
def deedF (c many : Int) (n : Str) : Deed := if c % 3 = 0 ∧ 0 < many then .put (c / 3 % many) (termF (c / 3 / many) many) else if c % 3 = 1 then .say n (termF (c / 3) many) else .call n
theorem deedF_ok (c : Int) {many : Int} {n : Str} (h : 0 ≤ many) (hn : isNameM n = true) : okDeB many (deedF c many n) ∧ nmDe (deedF c many n) := by
  unfold deedF
  split
  · rename_i g
    exact ⟨⟨⟨Int.emod_nonneg _ (by omega), Int.emod_lt_of_pos _ g.2⟩, termF_ok _ h⟩, trivial⟩
  · split
    · exact ⟨⟨isName_ok hn, termF_ok _ h⟩, hn⟩
    · exact ⟨isName_ok hn, hn⟩
def sp_L_deed_2 : SpD := fun ds Q => ∃ c many n, ds = [.int c, .int many, .str n] ∧ 0 ≤ many ∧ many ≤ 1000 ∧ Q (dD (deedF c many n))
theorem len_L_deed_2 : ∀ ds Q, sp_L_deed_2 ds Q → ds.length = 3 := by rintro _ _ ⟨_, _, _, rfl, _⟩; rfl
theorem u_L_deed_2 {c many : Int} {n : Str} {Q : D → Prop} (h : 0 ≤ many) (h1 : many ≤ 1000) (q : Q (dD (deedF c many n))) : sp_L_deed_2 [.int c, .int many, .str n] Q := ⟨c, many, n, rfl, h, h1, q⟩
theorem d_L_deed_2 : ∀ ds Q, sp_L_deed_2 ds Q → w_L_deed_2 sp_L_term_3 { nx := fun _ => Q .non, rt := fun d _ => Q d } (env0 4 ds) := by
  rintro _ Q ⟨c, many, n, rfl, h, h1, q⟩
  unfold w_L_deed_2
  refine sq_i ?_
  walk_at "vx"
  refine sq_i ?_
  walk_at "vx"
  refine sq_i ?_
  walk_at "vx"
  unfold deedF at q
  by_cases g : c % 3 = 0 ∧ 0 < many
  · rw [if_pos g] at q
    refine ⟨fun _ => ⟨fun _ => ⟨by omega, ⟨by omega, by omega⟩, u_L_term_3 h h1 q⟩, fun z => absurd g.2 z⟩, fun z => absurd g.1 z⟩
  · rw [if_neg g] at q
    refine (fun Y => ⟨fun k3 => ⟨fun h => absurd ⟨k3, h⟩ g, fun _ => Y⟩, fun _ => Y⟩) ?_
    refine sq_i ?_
    walk_at "vx"
    exact ⟨fun e => by rw [if_pos e] at q; exact u_L_term_3 h h1 q, fun e => by rw [if_neg e] at q; walk_at "wx"; exact q⟩
-- needs: m_same
theorem okWayB.mode {many nb : Int} {w : Way} (h : okWayB many nb w) : okMode w.mode := h.tgt.elim (fun e => .inl e.2) fun e => e.2.2
theorem u_Tree {m1 m2 m3 : Bool} {ks : List Str} {es ss : List Int} {P : Prop} {Q : D → Prop} (q : Q (treeD true ks es ss)) : sp_Tree_init [.obj true "Tree" [] [], .lst m1 (ks.map .str), lI m2 es, lI m3 ss] (fun r ds' => ∃ d' rest, ds' = d' :: rest ∧ r = .non ∧ (alo d' = true ∨ P) ∧ Q d') :=
  ⟨m1, m2, m3, _, _, _, rfl, noOwnL_str ks, noOwn_lI es, noOwn_lI ss, _, _, rfl, rfl, .inl (alo_tree ks es ss), q⟩
-- needs: m_chart u_tree
theorem u_Chart {m1 m2 m3 m4 m5 m6 : Bool} {bs nm il ol wl : List D} {ks : List Str} {es ss : List Int} {P : Prop} {Q : D → Prop} (n1 : noOwnL bs = true) (n2 : noOwnL nm = true) (n4 : noOwnL il = true) (n5 : noOwnL ol = true) (n6 : noOwnL wl = true)
    (a1 : aloL bs = true) (a2 : aloL nm = true) (a4 : aloL il = true) (a5 : aloL ol = true) (a6 : aloL wl = true) (q : Q (chartD true bs nm (treeD true ks es ss) il ol wl)) :
    sp_Chart_init [.obj true "Chart" [] [], .lst m1 bs, .lst m2 nm, treeD m3 ks es ss, .lst m4 il, .lst m5 ol, .lst m6 wl] (fun r ds' => ∃ d' rest, ds' = d' :: rest ∧ r = .non ∧ (alo d' = true ∨ P) ∧ Q d') :=
  ⟨m1, m2, m3, m4, m5, m6, bs, nm, ks, es, ss, il, ol, wl, rfl, n1, n2, n4, n5, n6, _, _, rfl, rfl, .inl (by
    show (true && aloL [.lst true bs, .lst true nm, treeD true ks es ss, .lst true il, .lst true ol, .lst true wl]) = true
    simp only [aloL, alo, a1, a2, a4, a5, a6, alo_tree, Bool.and_true]), q⟩
-- needs: m_by u_chart
def chB (m : Bool) (P : PB) : D := chartD m (P.bx.map bxP) (P.nm.map .str) (treeD m P.ks P.es P.ss) (P.ins.map dsD) (P.outs.map dsD) (P.ways.map wayD)
theorem frz_chB (m : Bool) (P : PB) : frz (chB m P) = chB false P := by
  unfold chB
  rw [frz_chart, frz_tree, frzL_bxP, frzL_str, frzL_dsD, frzL_dsD, frzL_way]
theorem alo_chB (P : PB) : alo (chB true P) = true := by
  show (true && aloL [.lst true (P.bx.map bxP), .lst true (P.nm.map .str), treeD true P.ks P.es P.ss, .lst true (P.ins.map dsD), .lst true (P.outs.map dsD), .lst true (P.ways.map wayD)]) = true
  simp only [aloL, alo, aloL_map bxP (fun _ => rfl), aloL_str, aloL_dsD, aloL_way, alo_tree, Bool.and_true]
-- needs: m_chBd
/-! ### the chart of parts, folded -/
section
variable (m : Bool) (P : PB) (Q : D → Prop)
theorem fB_boxes : dFld "boxes" (chB m P) Q = Q (.lst m (P.bx.map bxP)) := cfld_boxes ..
theorem fB_names : dFld "names" (chB m P) Q = Q (.lst m (P.nm.map .str)) := cfld_names ..
theorem fB_tree : dFld "tree" (chB m P) Q = Q (treeD m P.ks P.es P.ss) := cfld_tree ..
theorem fB_ins : dFld "ins" (chB m P) Q = Q (.lst m (P.ins.map dsD)) := cfld_ins ..
theorem fB_outs : dFld "outs" (chB m P) Q = Q (.lst m (P.outs.map dsD)) := cfld_outs ..
theorem fB_ways : dFld "ways" (chB m P) Q = Q (.lst m (P.ways.map wayD)) := cfld_ways ..
end
theorem noOwn_chB (P : PB) : noOwn (chB false P) = true := by
  have := frz_noOwn (chB false P)
  rwa [frz_chB] at this
local macro_rules | `(tactic| walk_at "vB") => `(tactic| repeat (first | simp only [fB_boxes, fB_names, fB_tree, fB_ins, fB_outs, fB_ways, frz_chB, noOwn_chB, alo_chB, fld_kinds, fld_elders, fld_starts, frz_tree, alo_tree, noOwn_tree] | walk_at "vx"))
-- needs: m_byS m_nmde m_chBd m_chB m_rname
/-! ### right charts -/
def okRs (nb : Int) (n : Nat) (l : List (List Deed)) : Prop := l.length = n ∧ ∀ ds ∈ l, ds.length ≤ 10 ∧ ∀ d ∈ ds, okDeB nb d ∧ nmDe d
structure okWayR (moods nb : Int) (w : Way) : Prop where
  ok : okWayB moods nb w
  sign : isNameM w.sign = true
  asks : w.asks.length ≤ 10
  deeds : w.deeds.length ≤ 10 ∧ ∀ d ∈ w.deeds, okDeB nb d ∧ nmDe d
structure okPR (P : PB) : Prop where
  tree : okTree P.es
  many : P.es.length ≤ 100
  kk : okKs P.es P.ks
  hs : okCh P.es P.ks P.ss
  bl : P.bx.length ≤ 10
  bx : ∀ b ∈ P.bx, isNameM b.1 = true ∧ okNb b.2
  bd : (P.bx.map Prod.fst).Nodup
  nl : P.nm.length = P.es.length
  nm : ∀ s ∈ P.nm, isNameM s = true
  nd : P.nm.Nodup
  ins : okRs P.bx.length P.es.length P.ins
  outs : okRs P.bx.length P.es.length P.outs
  wl : P.ways.length ≤ 100
  ways : ∀ w ∈ P.ways, okWayR P.es.length P.bx.length w
  srt : (P.ways.map Way.src).Pairwise (· ≤ ·)
-- needs: m_rchart u_cell
theorem okRs_snoc {nb : Int} {n : Nat} {l : List (List Deed)} {ds : List Deed} (h : okRs nb n l) (hl : ds.length ≤ 10) (hd : ∀ d ∈ ds, okDeB nb d ∧ nmDe d) : okRs nb (n + 1) (l ++ [ds]) := by
  refine ⟨by rw [List.length_append, h.1]; rfl, fun x m => ?_⟩
  rcases List.mem_append.mp m with m | m
  · exact h.2 x m
  · rw [List.mem_singleton.mp m]; exact ⟨hl, hd⟩
def sp_L_rows_3 : SpD := fun ds Q => ∃ (m m2 : Bool) (ns : List Int) (many by_ : Int) (nm : List Str), ds = [lI m ns, .int many, .lst m2 (nm.map .str), .int by_] ∧ 0 ≤ many ∧ many ≤ 1000 ∧ 0 < by_ ∧ by_ ≤ 1000 ∧ nm.length ≤ 1000 ∧ (∀ s ∈ nm, isNameM s = true) ∧ ∀ l, okRs many nm.length l → Q (.lst true (l.map dsD))
theorem len_L_rows_3 : ∀ ds Q, sp_L_rows_3 ds Q → ds.length = 4 := by rintro _ _ ⟨_, _, _, _, _, _, rfl, _⟩; rfl
theorem u_L_rows_3 {m m2 : Bool} {ns : List Int} {many by_ : Int} {nm : List Str} {Q : D → Prop} (h0 : 0 ≤ many) (h1 : many ≤ 1000) (h2 : 0 < by_) (h3 : by_ ≤ 1000) (h4 : nm.length ≤ 1000) (h5 : ∀ s ∈ nm, isNameM s = true) (q : ∀ l, okRs many nm.length l → Q (.lst true (l.map dsD))) : sp_L_rows_3 [lI m ns, .int many, .lst m2 (nm.map .str), .int by_] Q :=
  ⟨m, m2, ns, many, by_, nm, rfl, h0, h1, h2, h3, h4, h5, q⟩
theorem d_L_rows_3 : ∀ ds Q, sp_L_rows_3 ds Q → w_L_rows_3 sp_L_cell_at sp_L_deed_2 { nx := fun _ => Q .non, rt := fun d _ => Q d } (env0 8 ds) := by
  rintro _ Q ⟨m, m2, ns, many, by_, nm, rfl, h0, h1, h2, h3, h4, h5, q⟩
  unfold w_L_rows_3
  refine sq_i ?_
  walk_at "vx"
  refine sq_i ?_
  refine for_rng1 (j := (nm.length : Int)) (fun Q q => by walk_at "vx"; exact q) (by omega) (by omega)
    (fun k env => ∃ l o5 o6, env = [some (lI m ns), some (.int many), some (.lst m2 (nm.map .str)), some (.int by_), some (.lst true (l.map dsD)), o5, o6, none] ∧ okRs many k l) ⟨[], _, _, rfl, rfl, fun x m => by cases m⟩ ?_ ?_
  · rintro k _ hk ⟨l, o5, o6, rfl, hl⟩
    refine sq_i ?_
    walk_at "vx"
    refine u_L_cell_at0 (by omega) ⟨.inl rfl, ?_⟩
    walk_at "wx"
    generalize ns.getD _ 0 % _ = c0
    refine ⟨by decide, by omega, ?_⟩
    generalize c0 / by_ = c
    have c0 := Int.emod_nonneg c (show (3 : Int) ≠ 0 by decide)
    have c1 := Int.emod_lt_of_pos c (show (0 : Int) < 3 by decide)
    have hn := h5 _ (getD_mem (xs := nm) (k := k) (d := "") (by omega))
    refine ⟨by have := hl.1; omega, ?_⟩
    refine lc_rng1 (j := c % 3) (fun Q q => by walk_at "vx"; exact q) (by omega) (by omega) (fun j => dD (deedF (c / (6 + (j : Int))) many (nm.getD k ""))) (fun j hj => ?_) ?_
    · walk_at "vx"
      refine ⟨by omega, ?_⟩
      exact ix_map (f := D.str) "" (by omega) (by omega) (u_L_deed_2 h0 h1 ⟨.inr rfl, rfl⟩)
    rw [show (List.range (c % 3).toNat).map (fun j : Nat => dD (deedF (c / (6 + (j : Int))) many (nm.getD k ""))) = ((List.range (c % 3).toNat).map fun j : Nat => deedF (c / (6 + (j : Int))) many (nm.getD k "")).map dD by rw [List.map_map]; rfl]
    refine ⟨noOwnL_map dD noOwn_dD _, l ++ [(List.range (c % 3).toNat).map fun j : Nat => deedF (c / (6 + (j : Int))) many (nm.getD k "")], _, _, by rw [List.map_append]; rfl, okRs_snoc hl (by rw [List.length_map, List.length_range]; omega) fun d hd => ?_⟩
    obtain ⟨j, _, rfl⟩ := List.mem_map.mp hd
    exact deedF_ok _ h0 hn
  · rintro _ ⟨l, o5, o6, rfl, hl⟩
    walk_at "vx"
    exact q l hl
-- needs: L_term_3
def sp_L_ask_3 : SpD := fun ds Q => ∃ c many moods, ds = [.int c, .int many, .int moods] ∧ 0 ≤ many ∧ many ≤ 1000 ∧ 0 < moods ∧ ∀ a, okAskB moods many a → Q (askD2 a)
theorem len_L_ask_3 : ∀ ds Q, sp_L_ask_3 ds Q → ds.length = 3 := by rintro _ _ ⟨_, _, _, rfl, _⟩; rfl
theorem u_L_ask_3 {c many moods : Int} {Q : D → Prop} (h0 : 0 ≤ many) (h1 : many ≤ 1000) (h2 : 0 < moods) (q : ∀ a, okAskB moods many a → Q (askD2 a)) : sp_L_ask_3 [.int c, .int many, .int moods] Q := ⟨c, many, moods, rfl, h0, h1, h2, q⟩
theorem d_L_ask_3 : ∀ ds Q, sp_L_ask_3 ds Q → w_L_ask_3 sp_L_term_3 { nx := fun _ => Q .non, rt := fun d _ => Q d } (env0 5 ds) := by
  rintro _ Q ⟨c, many, moods, rfl, h0, h1, h2, q⟩
  unfold w_L_ask_3
  refine sq_i ?_
  walk_at "vx"
  refine sq_i ?_
  walk_at "vx"
  refine sq_i ?_
  walk_at "vx"
  refine ⟨fun hp => ?_, fun hp => ?_⟩
  · have m0 := Int.emod_nonneg (c / 6) (show moods ≠ 0 by omega)
    have m1 := Int.emod_lt_of_pos (c / 6) h2
    refine ix_map (f := D.str) (xs := ["open", "shut"]) "" (by omega) (show _ < (2 : Int) by omega) ⟨rfl, by omega, ?_⟩
    rcases (show c % 6 = 0 ∨ c % 6 = 1 by omega) with e | e <;> rw [e]
    · exact q (.op true (c / 6 % moods)) ⟨m0, m1⟩
    · exact q (.op false (c / 6 % moods)) ⟨m0, m1⟩
  refine sq_i ?_
  walk_at "vx"
  refine ⟨by decide, u_L_term_3 h0 h1 ?_⟩
  refine ix_map (f := D.str) (xs := ["<", "<=", "=", "!="]) "" (by omega) (show _ < (4 : Int) by omega) ⟨rfl, ?_⟩
  refine ⟨⟨by decide, by decide⟩, u_L_term_3 h0 h1 ?_⟩
  have t1 := termF_ok (c / 6 % 10 ^ 33) h0
  have t2 := termF_ok (c / 6 / 10 ^ 33) h0
  generalize termF (c / 6 % 10 ^ 33) many = a at t1 ⊢
  generalize termF (c / 6 / 10 ^ 33) many = b at t2 ⊢
  rcases (show c % 6 - 2 = 0 ∨ c % 6 - 2 = 1 ∨ c % 6 - 2 = 2 ∨ c % 6 - 2 = 3 by omega) with e | e | e | e <;> rw [e]
  · exact q (.nu .lt a b) ⟨t1, t2⟩
  · exact q (.nu .le a b) ⟨t1, t2⟩
  · exact q (.nu .eq a b) ⟨t1, t2⟩
  · exact q (.nu .ne a b) ⟨t1, t2⟩
-- needs: m_rchart u_cell L_ask_3 L_deed_2 m_mode
def sp_L_way_2 : SpD := fun ds Q => ∃ (m : Bool) (ns : List Int) (at_ src many moods : Int) (n : Str), ds = [lI m ns, .int at_, .int src, .int many, .int moods, .str n] ∧ 0 ≤ at_ ∧ 0 ≤ many ∧ many ≤ 1000 ∧ 0 ≤ src ∧ src < moods ∧ moods ≤ 1000 ∧ isNameM n = true ∧ ∀ w : Way, w.src = src → okWayR moods many w → Q (wayD w)
theorem len_L_way_2 : ∀ ds Q, sp_L_way_2 ds Q → ds.length = 6 := by rintro _ _ ⟨_, _, _, _, _, _, _, rfl, _⟩; rfl
theorem u_L_way_2 {m : Bool} {ns : List Int} {at_ src many moods : Int} {n : Str} {Q : D → Prop} (h1 : 0 ≤ at_) (h2 : 0 ≤ many) (h3 : many ≤ 1000) (h4 : 0 ≤ src) (h5 : src < moods) (h6 : moods ≤ 1000) (h7 : isNameM n = true) (q : ∀ w : Way, w.src = src → okWayR moods many w → Q (wayD w)) : sp_L_way_2 [lI m ns, .int at_, .int src, .int many, .int moods, .str n] Q :=
  ⟨m, ns, at_, src, many, moods, n, rfl, h1, h2, h3, h4, h5, h6, h7, q⟩
theorem d_L_way_2 : ∀ ds Q, sp_L_way_2 ds Q → w_L_way_2 sp_L_cell_at sp_L_ask_3 sp_L_deed_2 { nx := fun _ => Q .non, rt := fun d _ => Q d } (env0 12 ds) := by
  rintro _ Q ⟨m, ns, at_, src, many, moods, n, rfl, h1, h2, h3, h4, h5, h6, h7, q⟩
  unfold w_L_way_2
  refine sq_i ?_
  walk_at "vx"
  refine u_L_cell_at0 h1 ⟨.inl rfl, ?_⟩
  walk_at "wx"
  refine ⟨by decide, ?_⟩
  generalize ns.getD at_.toNat 0 % 10 ^ 60 = c
  have c0 := Int.emod_nonneg c (show (3 : Int) ≠ 0 by decide)
  have c1 := Int.emod_lt_of_pos c (show (0 : Int) < 3 by decide)
  have d0 := Int.emod_nonneg (c / 3) (show (3 : Int) ≠ 0 by decide)
  have d1 := Int.emod_lt_of_pos (c / 3) (show (0 : Int) < 3 by decide)
  refine sq_i ?_
  walk_at "vx"
  refine sq_i ?_
  refine for_rng1 (j := c % 3) (fun Q q => by walk_at "vx"; exact q) (by omega) (by omega)
    (fun k env => ∃ (as : List Ask) (o8 : Option D), env = [some (lI m ns), some (.int at_), some (.int src), some (.int many), some (.int moods), some (.str n), some (.int c), some (.lst true (as.map askD2)), o8, none, none, none] ∧ as.length = k ∧ ∀ a ∈ as, okAskB moods many a) ⟨[], _, rfl, rfl, fun a m => by cases m⟩ ?_ ?_
  · rintro k _ hk ⟨as, o8, rfl, la, ha⟩
    walk_at "vx"
    refine ⟨by omega, u_L_cell_at0 (by omega) ⟨.inl rfl, ?_⟩⟩
    walk_at "wx"
    refine ⟨by decide, u_L_ask_3 h2 h3 (by omega) fun a hok => ⟨as ++ [a], _, by rw [List.map_append]; rfl, by rw [List.length_append, la]; rfl, fun x hx => ?_⟩⟩
    rcases List.mem_append.mp hx with hx | hx
    · exact ha x hx
    · rw [List.mem_singleton.mp hx]; exact hok
  rintro _ ⟨as, o8, rfl, la, ha⟩
  refine sq_i ?_
  walk_at "vx"
  refine sq_i ?_
  refine for_rng1 (j := c / 3 % 3) (fun Q q => by walk_at "vx"; exact q) (by omega) (by omega)
    (fun k env => ∃ (dl : List Deed) (o8 : Option D), env = [some (lI m ns), some (.int at_), some (.int src), some (.int many), some (.int moods), some (.str n), some (.int c), some (.lst true (as.map askD2)), o8, some (.lst true (dl.map dD)), none, none] ∧ dl.length = k ∧ ∀ d ∈ dl, okDeB many d ∧ nmDe d) ⟨[], _, rfl, rfl, fun a m => by cases m⟩ ?_ ?_
  · rintro k _ hk ⟨dl, o8, rfl, ld, hd⟩
    walk_at "vx"
    refine ⟨by omega, u_L_cell_at0 (by omega) ⟨.inl rfl, ?_⟩⟩
    walk_at "wx"
    generalize ns.getD _ 0 % _ = c2
    refine ⟨by decide, u_L_deed_2 h2 h3 ⟨dl ++ [deedF c2 many n], _, by rw [List.map_append]; rfl, by rw [List.length_append, ld]; rfl, fun x hx => ?_⟩⟩
    rcases List.mem_append.mp hx with hx | hx
    · exact hd x hx
    · rw [List.mem_singleton.mp hx]; exact deedF_ok _ h2 h7
  rintro _ ⟨dl, o8, rfl, ld, hd⟩
  refine sq_i ?_
  walk_at "vx"
  refine ⟨by omega, ?_⟩
  have e0 := Int.emod_nonneg (c / 9) (show moods + 1 ≠ 0 by omega)
  have e1 := Int.emod_lt_of_pos (c / 9) (show 0 < moods + 1 by omega)
  have e2 : -1 ≤ c / 9 % (moods + 1) - 1 ∧ c / 9 % (moods + 1) - 1 < moods := by omega
  generalize c / 9 % (moods + 1) - 1 = tgt at e2 ⊢
  refine sq_i ?_
  walk_at "vx"
  refine ⟨⟨by omega, by omega⟩, ?_⟩
  have g0 := Int.emod_nonneg (c / 9 / (moods + 1)) (show (3 : Int) ≠ 0 by decide)
  have g1 := Int.emod_lt_of_pos (c / 9 / (moods + 1)) (show (0 : Int) < 3 by decide)
  refine ix_map (f := D.str) (xs := ["new", "near", "far"]) "" g0 (show _ < (3 : Int) by omega) ⟨rfl, ?_⟩
  have hmo : okMode ((["new", "near", "far"] : List Str).getD (c / 9 / (moods + 1) % 3).toNat "") := modeM_ok (c := c / 9 / (moods + 1) % 3) g0 g1
  generalize (["new", "near", "far"] : List Str).getD (c / 9 / (moods + 1) % 3).toNat "" = md at hmo ⊢
  refine sq_cut (fun env => ∃ mode : Str, env = [some (lI m ns), some (.int at_), some (.int src), some (.int many), some (.int moods), some (.str n), some (.int c), some (.lst true (as.map askD2)), o8, some (.lst true (dl.map dD)), some (.int tgt), some (.str mode)] ∧ ((tgt = -1 ∧ mode = "new") ∨ (0 ≤ tgt ∧ tgt < moods ∧ okMode mode))) ?_ ?_
  · walk_at "vx"
    exact ⟨fun h => ⟨_, rfl, .inl ⟨h, rfl⟩⟩, fun h => ⟨_, rfl, .inr ⟨by omega, by omega, hmo⟩⟩⟩
  rintro _ ⟨mode, rfl, hm⟩
  walk_at "vx"
  refine ⟨noOwnL_map askD2 noOwn_ask _, noOwnL_map dD noOwn_dD _, ?_⟩
  exact q ⟨src, n, as, dl, tgt, mode⟩ rfl ⟨⟨⟨h4, h5⟩, isName_ok h7, ⟨by show as.length ≤ 41; omega, ha⟩, ⟨by show dl.length ≤ 41; omega, fun d m => (hd d m).1⟩, hm⟩, h7, by show as.length ≤ 10; omega, by show dl.length ≤ 10; omega, hd⟩
-- needs: m_rchart
/-! ### charts of any form -/
inductive GDeed where
  | put (b : Int) (t : Int × Int)
  | call (s : Str)
  | three (k s : Str) (t : Int × Int)
def gdD : GDeed → D
  | .put b t => .tup [.str "put", .int b, tD t.1 t.2]
  | .call s => .tup [.str "call", .str s]
  | .three k s t => .tup [.str k, .str s, tD t.1 t.2]
def fGD : GDeed → Prop
  | .put _ _ => True
  | .call s => s.length ≤ 16777216
  | .three k s _ => k ≠ "put" ∧ k ≠ "call" ∧ s.length ≤ 16777216
inductive GAsk where
  | op (b : Bool) (k : Int)
  | nu (m : Str) (x y : Int × Int)
def gaD : GAsk → D
  | .op b k => .tup [.str (if b then "open" else "shut"), .int k]
  | .nu m x y => .tup [.str m, tD x.1 x.2, tD y.1 y.2]
def fGA : GAsk → Prop
  | .op _ _ => True
  | .nu m _ _ => m ≠ "open" ∧ m ≠ "shut"
structure GWay where
  src : Int
  sign : Str
  asks : List GAsk
  deeds : List GDeed
  tgt : Int
  mode : Str
def gdsD (l : List GDeed) : D := .tup (l.map gdD)
def gwD (w : GWay) : D := .tup [.int w.src, .str w.sign, .tup (w.asks.map gaD), gdsD w.deeds, .int w.tgt, .str w.mode]
structure PG where
  bx : List (Str × Int)
  nm : List Str
  ks : List Str
  es : List Int
  ss : List Int
  ins : List (List GDeed)
  outs : List (List GDeed)
  ways : List GWay
def chG (m : Bool) (P : PG) : D := chartD m (P.bx.map bxP) (P.nm.map .str) (treeD m P.ks P.es P.ss) (P.ins.map gdsD) (P.outs.map gdsD) (P.ways.map gwD)
theorem noOwn_gdD (d : GDeed) : noOwn (gdD d) = true := by cases d <;> rfl
theorem noOwn_gaD (a : GAsk) : noOwn (gaD a) = true := by cases a <;> rfl
theorem alo_gdD (d : GDeed) : alo (gdD d) = true := by cases d <;> rfl
theorem alo_gaD (a : GAsk) : alo (gaD a) = true := by cases a <;> rfl
theorem noOwn_gds (l : List GDeed) : noOwn (gdsD l) = true := noOwnL_map gdD noOwn_gdD l
theorem alo_gds (l : List GDeed) : alo (gdsD l) = true := aloL_map gdD alo_gdD l
theorem noOwn_gw (w : GWay) : noOwn (gwD w) = true := by
  show (true && (true && (noOwnL (w.asks.map gaD) && (noOwn (gdsD w.deeds) && true)))) = true
  rw [noOwnL_map gaD noOwn_gaD, noOwn_gds]; rfl
theorem alo_gw (w : GWay) : alo (gwD w) = true := by
  show (true && (true && (aloL (w.asks.map gaD) && (alo (gdsD w.deeds) && true)))) = true
  rw [aloL_map gaD alo_gaD, alo_gds]; rfl
theorem frzL_gds (l : List (List GDeed)) : frzL (l.map gdsD) = l.map gdsD := frzL_id _ (noOwnL_map gdsD noOwn_gds l)
theorem frzL_gw (l : List GWay) : frzL (l.map gwD) = l.map gwD := frzL_id _ (noOwnL_map gwD noOwn_gw l)
theorem frz_chG (m : Bool) (P : PG) : frz (chG m P) = chG false P := by
  unfold chG
  rw [frz_chart, frz_tree, frzL_bxP, frzL_str, frzL_gds, frzL_gds, frzL_gw]
theorem alo_chG (P : PG) : alo (chG true P) = true := by
  show (true && aloL [.lst true (P.bx.map bxP), .lst true (P.nm.map .str), treeD true P.ks P.es P.ss, .lst true (P.ins.map gdsD), .lst true (P.outs.map gdsD), .lst true (P.ways.map gwD)]) = true
  simp only [aloL, alo, aloL_map bxP (fun _ => rfl), aloL_str, aloL_map gdsD alo_gds, aloL_map gwD alo_gw, alo_tree, Bool.and_true]
theorem noOwn_chG (P : PG) : noOwn (chG false P) = true := by
  have := frz_noOwn (chG false P)
  rwa [frz_chG] at this
section
variable (m : Bool) (P : PG) (Q : D → Prop)
theorem fG_boxes : dFld "boxes" (chG m P) Q = Q (.lst m (P.bx.map bxP)) := cfld_boxes ..
theorem fG_names : dFld "names" (chG m P) Q = Q (.lst m (P.nm.map .str)) := cfld_names ..
theorem fG_tree : dFld "tree" (chG m P) Q = Q (treeD m P.ks P.es P.ss) := cfld_tree ..
theorem fG_ins : dFld "ins" (chG m P) Q = Q (.lst m (P.ins.map gdsD)) := cfld_ins ..
theorem fG_outs : dFld "outs" (chG m P) Q = Q (.lst m (P.outs.map gdsD)) := cfld_outs ..
theorem fG_ways : dFld "ways" (chG m P) Q = Q (.lst m (P.ways.map gwD)) := cfld_ways ..
end
local macro_rules | `(tactic| walk_at "vG") => `(tactic| repeat (first | simp only [fG_boxes, fG_names, fG_tree, fG_ins, fG_outs, fG_ways, frz_chG, noOwn_chG, alo_chG, fld_kinds, fld_elders, fld_starts, frz_tree, alo_tree, noOwn_tree] | walk_at "vx"))
/-- a chart's form: bounds of its lists, deeds and asks told by their words -/
structure fPG (P : PG) : Prop where
  ks : P.ks.length ≤ 150
  es : P.es.length ≤ 150
  ss : P.ss.length ≤ 150
  nl : P.nm.length ≤ 150
  nm : ∀ s ∈ P.nm, s.length ≤ 16777216
  bl : P.bx.length ≤ 150
  bx : ∀ b ∈ P.bx, b.1.length ≤ 16777216
  il : P.ins.length ≤ 1000
  ol : P.outs.length ≤ 1000
  wl : P.ways.length ≤ 1000
  ds : ∀ ds ∈ P.ins ++ P.outs ++ P.ways.map GWay.deeds, ∀ d ∈ ds, fGD d
  sg : ∀ w ∈ P.ways, w.sign.length ≤ 16777216
  as : ∀ w ∈ P.ways, ∀ a ∈ w.asks, fGA a
/-- what is right -/
def nbB (x : Int) : Bool := decide (-(10 ^ 30) < x) && decide (x < 10 ^ 30)
def rtB (nb : Int) (t : Int × Int) : Bool := decide (-1 ≤ t.1) && (decide (t.1 < nb) && nbB t.2)
def rdB (nb : Int) : GDeed → Bool
  | .put b t => decide (0 ≤ b) && (decide (b < nb) && rtB nb t)
  | .call s => isNameM s
  | .three k s t => decide (k = "say") && (isNameM s && rtB nb t)
def marksL : List Str := ["<", "<=", "=", "!="]
def raB (many nb : Int) : GAsk → Bool
  | .op _ k => decide (0 ≤ k) && decide (k < many)
  | .nu m x y => decide (m ∈ marksL) && (rtB nb x && rtB nb y)
def modesL : List Str := ["new", "near", "far"]
structure rwG (many nb : Int) (w : GWay) : Prop where
  s0 : 0 ≤ w.src
  s1 : w.src < many
  t0 : -1 ≤ w.tgt
  t1 : w.tgt < many
  sg : isNameM w.sign = true
  md : w.mode ∈ modesL
  st : w.tgt = -1 → w.mode = "new"
  as : ∀ a ∈ w.asks, raB many nb a = true
def lkN (P : PG) : Prop := P.es.length = P.ks.length ∧ P.ss.length = P.ks.length ∧ P.nm.length = P.ks.length ∧ okTree P.es
def lkK (P : PG) : Prop := okKs P.es P.ks ∧ okCh P.es P.ks P.ss
def lkM (P : PG) : Prop := (∀ s ∈ P.nm, isNameM s = true) ∧ P.nm.Nodup
def lkX (P : PG) : Prop := (∀ b ∈ P.bx, isNameM b.1 = true ∧ nbB b.2 = true) ∧ (P.bx.map Prod.fst).Nodup
def lkD (P : PG) : Prop := P.ins.length = P.nm.length ∧ P.outs.length = P.nm.length ∧ ∀ ds ∈ P.ins ++ P.outs ++ P.ways.map GWay.deeds, ∀ d ∈ ds, rdB P.bx.length d = true
def lkW (P : PG) : Prop := (P.ways.map GWay.src).Pairwise (· ≤ ·) ∧ ∀ w ∈ P.ways, rwG P.nm.length P.bx.length w
/-- what a chart is refused with, if it is: QX c -/
def refG (P : PG) (q : Prop) (qx : Str → Prop) : Prop :=
  (¬ (lkN P ∧ lkK P) → qx "BadTree") ∧ (lkN P → lkK P → (¬ lkM P → qx "BadName") ∧ (lkM P → (¬ lkX P → qx "BadBox") ∧ (lkX P → (¬ lkD P → qx "BadDeed") ∧ (lkD P → (¬ lkW P → qx "BadWay") ∧ (lkW P → q)))))
/-! ### right charts are such -/
def rawDe : Deed → GDeed
  | .put b t => .put b t
  | .call s => .call s
  | .say s t => .three "say" s t
def rawAs : Ask → GAsk
  | .op b k => .op b k
  | .nu m x y => .nu (mS m) x y
def rawWy (w : Way) : GWay := ⟨w.src, w.sign, w.asks.map rawAs, w.deeds.map rawDe, w.tgt, w.mode⟩
def PB.raw (P : PB) : PG := ⟨P.bx, P.nm, P.ks, P.es, P.ss, P.ins.map (·.map rawDe), P.outs.map (·.map rawDe), P.ways.map rawWy⟩
theorem gdD_raw (d : Deed) : gdD (rawDe d) = dD d := by cases d <;> rfl
theorem gaD_raw (a : Ask) : gaD (rawAs a) = askD2 a := by
  cases a with
  | op b k => cases b <;> rfl
  | nu m x y => rfl
theorem gdsD_raw (l : List Deed) : gdsD (l.map rawDe) = dsD l := by
  show D.tup ((l.map rawDe).map gdD) = .tup (l.map dD)
  rw [List.map_map, show gdD ∘ rawDe = dD from funext gdD_raw]
theorem gwD_raw (w : Way) : gwD (rawWy w) = wayD w := by
  show D.tup [.int w.src, .str w.sign, .tup ((w.asks.map rawAs).map gaD), gdsD (w.deeds.map rawDe), .int w.tgt, .str w.mode] = _
  rw [gdsD_raw, List.map_map, show gaD ∘ rawAs = askD2 from funext gaD_raw]; rfl
theorem nbB_iff (x : Int) : nbB x = true ↔ okNb x := by
  unfold nbB okNb
  rw [Bool.and_eq_true, decide_eq_true_eq, decide_eq_true_eq]
theorem rtB_ok {nb : Int} {t : Int × Int} (hn : 0 ≤ nb) (h : okTmB nb t) : rtB nb t = true := by
  unfold rtB
  rw [Bool.and_eq_true, Bool.and_eq_true, decide_eq_true_eq, decide_eq_true_eq, nbB_iff]
  obtain ⟨h1, h2⟩ := h
  exact ⟨by omega, by omega, h2⟩
theorem rdB_ok {nb : Int} {d : Deed} (hn : 0 ≤ nb) (h : okDeB nb d) (h2 : nmDe d) : rdB nb (rawDe d) = true := by
  cases d with
  | put b t =>
    obtain ⟨h1, h3⟩ := h
    show (decide (0 ≤ b) && (decide (b < nb) && rtB nb t)) = true
    rw [rtB_ok hn h3, decide_eq_true h1.1, decide_eq_true h1.2]; rfl
  | call s => exact h2
  | say s t =>
    show (decide ((("say" : Str)) = "say") && (isNameM s && rtB nb t)) = true
    rw [rtB_ok hn h.2, show isNameM s = true from h2, decide_eq_true rfl, Bool.true_and, Bool.true_and]
theorem raB_ok {many nb : Int} {a : Ask} (hn : 0 ≤ nb) (h : okAskB many nb a) : raB many nb (rawAs a) = true := by
  cases a with
  | op b k =>
    show (decide (0 ≤ k) && decide (k < many)) = true
    rw [decide_eq_true h.1, decide_eq_true h.2]; rfl
  | nu m x y =>
    show (decide (mS m ∈ marksL) && (rtB nb x && rtB nb y)) = true
    rw [rtB_ok hn h.1, rtB_ok hn h.2, decide_eq_true (show mS m ∈ marksL by cases m <;> decide +kernel), Bool.true_and, Bool.true_and]
theorem fGD_raw {d : Deed} (h : nmDe d) : fGD (rawDe d) := by
  cases d with
  | put b t => trivial
  | call s =>
    have := (isName_ok h).2
    show s.length ≤ 16777216
    omega
  | say s t =>
    have := (isName_ok h).2
    exact ⟨by decide +kernel, by decide +kernel, by omega⟩
theorem fGA_raw (a : Ask) : fGA (rawAs a) := by
  cases a with
  | op b k => trivial
  | nu m x y => cases m <;> exact ⟨by decide +kernel, by decide +kernel⟩
theorem okPR.deeds {P : PB} (h : okPR P) : ∀ ds ∈ P.ins ++ P.outs ++ P.ways.map Way.deeds, ∀ d ∈ ds, okDeB P.bx.length d ∧ nmDe d := fun ds m => by
  rcases List.mem_append.mp m with m | m
  · rcases List.mem_append.mp m with m | m
    · exact (h.ins.2 ds m).2
    · exact (h.outs.2 ds m).2
  · obtain ⟨w, hw, rfl⟩ := List.mem_map.mp m
    exact (h.ways w hw).deeds.2
theorem raw_rows (P : PB) : P.raw.ins ++ P.raw.outs ++ P.raw.ways.map GWay.deeds = (P.ins ++ P.outs ++ P.ways.map Way.deeds).map (·.map rawDe) := by
  rw [List.map_append, List.map_append, List.map_map]
  show _ ++ _ ++ (P.ways.map rawWy).map GWay.deeds = _
  rw [List.map_map]; rfl
theorem okPR.form {P : PB} (h : okPR P) : fPG P.raw := by
  have l1 := h.many
  have l2 := h.kk.1
  have l3 := h.hs.1
  have l4 := h.nl
  have l5 := h.bl
  have l6 := h.ins.1
  have l7 := h.outs.1
  have l8 := h.wl
  refine ⟨by show P.ks.length ≤ 150; omega, by show P.es.length ≤ 150; omega, by show P.ss.length ≤ 150; omega, by show P.nm.length ≤ 150; omega, fun s m => ?_, by show P.bx.length ≤ 150; omega, fun b m => ?_, ?_, ?_, ?_, ?_, ?_, ?_⟩
  · have := (isName_ok (h.nm s m)).2
    omega
  · have := (isName_ok (h.bx b m).1).2
    omega
  · show (P.ins.map _).length ≤ 1000
    rw [List.length_map]; omega
  · show (P.outs.map _).length ≤ 1000
    rw [List.length_map]; omega
  · show (P.ways.map _).length ≤ 1000
    rw [List.length_map]; omega
  · rw [raw_rows]
    intro ds m d hd
    obtain ⟨es, he, rfl⟩ := List.mem_map.mp m
    obtain ⟨e, hee, rfl⟩ := List.mem_map.mp hd
    exact fGD_raw (h.deeds es he e hee).2
  · intro w m
    obtain ⟨v, hv, rfl⟩ := List.mem_map.mp m
    have := (isName_ok (h.ways v hv).sign).2
    show v.sign.length ≤ 16777216
    omega
  · intro w m a ha
    obtain ⟨v, hv, rfl⟩ := List.mem_map.mp m
    obtain ⟨b, _, rfl⟩ := List.mem_map.mp ha
    exact fGA_raw b
theorem okPR.oks {P : PB} (h : okPR P) : lkN P.raw ∧ lkK P.raw ∧ lkM P.raw ∧ lkX P.raw ∧ lkD P.raw ∧ lkW P.raw := by
  have l2 := h.kk.1
  have l3 := h.hs.1
  have l4 := h.nl
  refine ⟨⟨l2.symm, by show P.ss.length = P.ks.length; omega, by show P.nm.length = P.ks.length; omega, h.tree⟩, ⟨h.kk, h.hs⟩, ⟨h.nm, h.nd⟩, ⟨fun b m => ⟨(h.bx b m).1, (nbB_iff _).mpr (h.bx b m).2⟩, h.bd⟩, ⟨?_, ?_, ?_⟩, ?_, ?_⟩
  · show (P.ins.map _).length = P.nm.length
    rw [List.length_map, h.ins.1, l4]
  · show (P.outs.map _).length = P.nm.length
    rw [List.length_map, h.outs.1, l4]
  · rw [raw_rows]
    intro ds m d hd
    obtain ⟨es, he, rfl⟩ := List.mem_map.mp m
    obtain ⟨e, hee, rfl⟩ := List.mem_map.mp hd
    have := h.deeds es he e hee
    exact rdB_ok (by omega) this.1 this.2
  · show ((P.ways.map rawWy).map GWay.src).Pairwise _
    rw [List.map_map]; exact h.srt
  · intro w m
    obtain ⟨v, hv, rfl⟩ := List.mem_map.mp m
    have hw := h.ways v hv
    have ht := hw.ok.tgt
    refine ⟨hw.ok.src.1, ?_, ?_, ?_, hw.sign, ?_, fun e => ?_, fun a ha => ?_⟩
    · show v.src < (P.nm.length : Int)
      rw [l4]; exact hw.ok.src.2
    · show -1 ≤ v.tgt
      rcases ht with ⟨e, _⟩ | ⟨e, _⟩ <;> omega
    · show v.tgt < (P.nm.length : Int)
      rcases ht with ⟨e, _⟩ | ⟨_, e, _⟩ <;> omega
    · show v.mode ∈ modesL
      rcases hw.ok.mode with e | e | e <;> rw [e] <;> decide +kernel
    · rcases ht with ⟨_, e2⟩ | ⟨e2, _⟩
      · exact e2
      · have e : v.tgt = -1 := e
        omega
    · obtain ⟨b, hb, rfl⟩ := List.mem_map.mp ha
      show raB (P.nm.length : Int) _ _ = true
      rw [l4]
      exact raB_ok (by omega) (hw.ok.asks.2 b hb)
-- needs: m_raw u_chart u_tree
def pgL (P : PG) : List D := [.lst true (P.bx.map bxP), .lst true (P.nm.map .str), .lst true (P.ks.map .str), lI true P.es, lI true P.ss, .lst true (P.ins.map gdsD), .lst true (P.outs.map gdsD), .lst true (P.ways.map gwD)]
def sp_L_chart_8 : SpD := fun ds Q => ∃ P, ds = [frz (.lst true (pgL P))] ∧ fPG P ∧ Q (chG true P)
theorem len_L_chart_8 : ∀ ds Q, sp_L_chart_8 ds Q → ds.length = 1 := by rintro _ _ ⟨_, rfl, _⟩; rfl
theorem u_L_chart_8 {P : PG} {Q : D → Prop} (h : fPG P) (q : Q (chG true P)) : sp_L_chart_8 [frz (.lst true (pgL P))] Q := ⟨P, rfl, h, q⟩
theorem d_L_chart_8 : ∀ ds Q, sp_L_chart_8 ds Q → w_L_chart_8 sp_Tree_init sp_Chart_init { nx := fun _ => Q .non, rt := fun d _ => Q d } (env0 2 ds) := by
  rintro _ Q ⟨P, rfl, f, q⟩
  unfold w_L_chart_8
  rw [show frz (.lst true (pgL P)) = .lst false [.lst false (P.bx.map bxP), .lst false (P.nm.map .str), .lst false (P.ks.map .str), lI false P.es, lI false P.ss, .lst false (P.ins.map gdsD), .lst false (P.outs.map gdsD), .lst false (P.ways.map gwD)] by
    unfold pgL
    simp only [frz, frzL, frzL_lI]
    rw [frzL_bxP, frzL_str, frzL_str, frzL_gds, frzL_gds, frzL_gw]]
  refine sq_i ?_
  walk_at "vx"
  simp only [frzL_str]
  refine ⟨noOwnL_str P.ks, u_Tree ?_⟩
  refine ⟨noOwnL_map bxP noOwn_bxP _, noOwnL_str _, noOwnL_map gdsD noOwn_gds _, _, rfl, ?_⟩
  refine ⟨noOwnL_map gdsD noOwn_gds _, _, rfl, noOwnL_map gwD noOwn_gw _, ?_⟩
  show sp_Chart_init [.obj true "Chart" [] [], .lst false (frzL (P.bx.map bxP)), .lst false (P.nm.map .str), frz (treeD true P.ks P.es P.ss), .lst false (frzL (P.ins.map gdsD)), .lst false (frzL (P.outs.map gdsD)), .lst false (frzL (P.ways.map gwD))] _
  rw [frz_tree, frzL_bxP, frzL_gds, frzL_gds, frzL_gw]
  exact u_Chart (noOwnL_map bxP noOwn_bxP _) (noOwnL_str _) (noOwnL_map gdsD noOwn_gds _) (noOwnL_map gdsD noOwn_gds _) (noOwnL_map gwD noOwn_gw _) (aloL_map bxP (fun _ => rfl) _) (aloL_str _) (aloL_map gdsD alo_gds _) (aloL_map gdsD alo_gds _) (aloL_map gwD alo_gw _) q
-- needs: m_rname L_names
def nzC : Str := "qzvkjw"
theorem nzC_in : (∀ c ∈ nzC.cps.toList, c ∈ letL.cps.toList) ∧ nzC.cps.toList.length = 6 ∧ nzC.length = 6 := by decide +kernel
def bnF (a : Int) (k : Nat) : Str := cutS nzC none (some a) ++ "b" ++ Str.ofString (toString (k : Int))
theorem bnF_cps {a : Int} {k : Nat} (h : 0 ≤ a) (hk : k < 10) : (bnF a k).cps.toList = nzC.cps.toList.take a.toNat ++ [98, 48 + k] := by
  unfold bnF
  rw [cps_app, cps_app, cps_cut _ h, fig_at _ (by omega) (by omega), Int.toNat_natCast, show (("b" : Str)).cps.toList = [98] by decide +kernel, List.append_assoc]; rfl
theorem bnF_name {a : Int} {k : Nat} (h : 0 ≤ a) (hk : k < 10) : isNameM (bnF a k) = true := by
  obtain ⟨z1, z2, _⟩ := nzC_in
  have e := bnF_cps h hk
  have hl : 98 ∈ letL.cps.toList := (mem_let _).mpr (by omega)
  have hf : 48 + k ∈ figL.cps.toList := (mem_fig _).mpr (by omega)
  have la : (nzC.cps.toList.take a.toNat).length ≤ 6 := by rw [List.length_take, z2]; omega
  have inA : ∀ x ∈ nzC.cps.toList.take a.toNat, x ∈ letL.cps.toList := fun x m => z1 x (List.mem_of_mem_take m)
  generalize nzC.cps.toList.take a.toNat = A at e la inA
  have all : ∀ x ∈ A ++ [98, 48 + k], x ∈ letL.cps.toList ∨ x ∈ figL.cps.toList := fun x m => by
    simp only [List.mem_append, List.mem_cons, List.not_mem_nil, or_false] at m
    rcases m with m | rfl | rfl
    · exact .inl (inA x m)
    · exact .inl hl
    · exact .inr hf
  cases A with
  | nil => exact isName_of (x := 98) (xs := [48 + k]) e hl (by show 1 ≤ 11; decide) all ⟨48 + k, by simp, hf⟩
  | cons a A => exact isName_of (x := a) (xs := A ++ [98, 48 + k]) e (inA a List.mem_cons_self) (by simp only [List.length_cons] at la; simp only [List.length_append, List.length_cons, List.length_nil]; omega) all ⟨48 + k, by simp, hf⟩
theorem bnF_inj {a : Int} {k j : Nat} (h : 0 ≤ a) (hk : k < 10) (hj : j < 10) (e : bnF a k = bnF a j) : k = j := by
  have h2 : (bnF a k).cps.toList = (bnF a j).cps.toList := by rw [e]
  rw [bnF_cps h hk, bnF_cps h hj] at h2
  have h2 := List.append_cancel_left h2
  have h3 := (List.cons.inj (List.cons.inj h2).2).1
  omega
theorem nodup_range {α : Type} {f : Nat → α} {n : Nat} (h : ∀ i j, i < n → j < n → f i = f j → i = j) : ((List.range n).map f).Nodup := by
  rw [List.nodup_iff_pairwise_ne, List.pairwise_map]
  refine (List.pairwise_lt_range (n := n)).imp_of_mem ?_
  intro i j hi hj lt e
  have := h i j (List.mem_range.mp hi) (List.mem_range.mp hj) e
  omega
-- needs: L_chart_8 L_deed_2 m_rchart m_bname L_elders_6 L_kinds_3 L_names L_rows_3 L_way_2 L_far_2 u_cell
theorem pgL_raw (P : PB) : pgL P.raw = [.lst true (P.bx.map bxP), .lst true (P.nm.map .str), .lst true (P.ks.map .str), lI true P.es, lI true P.ss, .lst true (P.ins.map dsD), .lst true (P.outs.map dsD), .lst true (P.ways.map wayD)] := by
  unfold pgL PB.raw
  dsimp only
  rw [List.map_map, List.map_map, List.map_map, show gwD ∘ rawWy = wayD from funext gwD_raw, show (gdsD ∘ fun x => List.map rawDe x) = dsD from funext gdsD_raw]
def sp_L_partsM : SpD := fun ds Q => ∃ (ns : List Int), ds = [lI false ns] ∧ ∀ P, okPR P → Q (.lst true (pgL P.raw))
theorem len_L_partsM : ∀ ds Q, sp_L_partsM ds Q → ds.length = 1 := by rintro _ _ ⟨_, rfl, _⟩; rfl
theorem u_L_partsM {ns : List Int} {Q : D → Prop} (q : ∀ P, okPR P → Q (.lst true (pgL P.raw))) : sp_L_partsM [lI false ns] Q := ⟨ns, rfl, q⟩
theorem d_L_partsM : ∀ ds Q, sp_L_partsM ds Q → w_L_partsM sp_L_cell_at sp_L_elders_6 sp_L_kinds_3 sp_L_names sp_L_far_2 sp_L_rows_3 sp_L_way_2 { nx := fun _ => Q .non, rt := fun d _ => Q d } (env0 14 ds) := by
  rintro _ Q ⟨ns, rfl, q⟩
  unfold w_L_partsM
  refine sq_i ?_
  walk_at "vx"
  rw [cutD_to _ (by omega), ← List.map_take]
  generalize ns.take (120 : Int).toNat = sc
  refine sq_i ?_
  walk_at "vx"
  refine u_L_cell_at0 (m := false) (ns := sc) (by omega) ⟨.inl rfl, ?_⟩
  walk_at "wx"
  refine ⟨by decide, ?_⟩
  generalize sc.getD _ 0 % _ = sh
  refine sq_i ?_
  walk_at "vx"
  have s0 := Int.emod_nonneg sh (show (12 : Int) ≠ 0 by decide)
  have s1 := Int.emod_lt_of_pos sh (show (0 : Int) < 12 by decide)
  have s2 := Int.emod_nonneg (sh / 48) (show (45 : Int) ≠ 0 by decide)
  have s3 := Int.emod_lt_of_pos (sh / 48) (show (0 : Int) < 45 by decide)
  refine sq_cut (fun env => ∃ moods : Int, 1 ≤ moods ∧ moods ≤ 45 ∧ env = [some (lI true sc), some (.int sh), some (.int moods), none, none, none, none, none, none, none, none, none, none, none]) ?_ ?_
  · walk_at "vx"
    exact ⟨fun _ => ⟨_, by omega, by omega, rfl⟩, fun _ => ⟨_, by omega, by omega, rfl⟩⟩
  rintro _ ⟨moods, m1, m2, rfl⟩
  refine sq_i ?_
  walk_at "vx"
  refine u_L_elders_6 m1 (by omega) fun es ok le => ?_
  walk_at "wx"
  refine sq_i ?_
  walk_at "vx"
  refine u_L_kinds_3 ok.most fun ks ss okk okc => ?_
  walk_at "wx"
  simp only [aloL_str]
  walk_at "wx"
  refine sq_i ?_
  walk_at "vx"
  refine u_L_cell_at0 (by omega) ⟨.inl rfl, ?_⟩
  walk_at "wx"
  refine ⟨by decide, u_L_names (by omega) (by omega) ?_⟩
  generalize sc.getD _ 0 % _ = nc
  have nml : ((List.range moods.toNat).map fun k : Nat => nmF nc k).length = es.length := by rw [List.length_map, List.length_range]; omega
  have nmn : ∀ s ∈ ((List.range moods.toNat).map fun k : Nat => nmF nc k), isNameM s = true := fun s hs => by
    obtain ⟨k, _, rfl⟩ := List.mem_map.mp hs
    exact nmF_name _ _
  have nmd : ((List.range moods.toNat).map fun k : Nat => nmF nc k).Nodup := nodup_range fun i j hi hj e => by
    have := nmF_inj (c := nc) (k := i) (j := j) (by omega) (by omega) (by omega) (by omega) e
    omega
  generalize ((List.range moods.toNat).map fun k : Nat => nmF nc k) = nm at nml nmn nmd ⊢
  refine sq_i ?_
  walk_at "vx"
  have b0 := Int.emod_nonneg (sh / 3) (show (5 : Int) ≠ 0 by decide)
  have b1 := Int.emod_lt_of_pos (sh / 3) (show (0 : Int) < 5 by decide)
  generalize sh / 3 % 5 = many at b0 b1 ⊢
  refine sq_i ?_
  rw [show ("qzvkjw" : Str) = nzC from rfl]
  walk_at "vx"
  have a0 := Int.emod_nonneg (sh / 7) (show (7 : Int) ≠ 0 by decide)
  generalize sh / 7 % 7 = ah at a0 ⊢
  obtain ⟨_, _, zl⟩ := nzC_in
  refine ⟨by rw [zl]; decide, ?_⟩
  refine sq_i ?_
  refine lc_rng1 (j := many) (fun Q q => by walk_at "vx"; exact q) (by omega) (by omega) (fun k => bxP (bnF ah k, farF (sc.getD (2 + k) 0))) (fun k hk => ?_) ?_
  · walk_at "vx"
    have l2 := PyProof.Rows.int_text_len_1921 (i := (k : Int)) (log_lt (by omega))
    have l3 := cutS_lenN nzC none (some ah)
    have l4 : ("b" : Str).length = 1 := by decide +kernel
    have l5 := len_app (cutS nzC none (some ah)) "b"
    refine ⟨by omega, log_lt (by omega), by omega, u_L_cell_at0 (by omega) ⟨.inl rfl, u_L_far_2 ⟨.inl rfl, ?_⟩⟩⟩
    rw [show (2 + (k : Int)).toNat = 2 + k by omega]; rfl
  rw [show (List.range many.toNat).map (fun k : Nat => bxP (bnF ah k, farF (sc.getD (2 + k) 0))) = ((List.range many.toNat).map fun k : Nat => (bnF ah k, farF (sc.getD (2 + k) 0))).map bxP by rw [List.map_map]; rfl]
  have bxl : ((List.range many.toNat).map fun k : Nat => (bnF ah k, farF (sc.getD (2 + k) 0))).length = many.toNat := by rw [List.length_map, List.length_range]
  have bxn : ∀ b ∈ ((List.range many.toNat).map fun k : Nat => (bnF ah k, farF (sc.getD (2 + k) 0))), isNameM b.1 = true ∧ okNb b.2 := fun b hb => by
    obtain ⟨k, hk, rfl⟩ := List.mem_map.mp hb
    have := List.mem_range.mp hk
    exact ⟨bnF_name a0 (by omega), farF_ok _⟩
  have bxd : (((List.range many.toNat).map fun k : Nat => (bnF ah k, farF (sc.getD (2 + k) 0))).map Prod.fst).Nodup := by
    rw [List.map_map]
    exact nodup_range fun i j hi hj e => bnF_inj a0 (by omega) (by omega) e
  generalize ((List.range many.toNat).map fun k : Nat => (bnF ah k, farF (sc.getD (2 + k) 0))) = bx at bxl bxn bxd ⊢
  have hmb : many = (bx.length : Int) := by omega
  refine sq_i ?_
  walk_at "vx"
  simp only [frzL_str]
  refine u_L_rows_3 (by omega) (by omega) (by decide) (by decide) (by omega) nmn fun ins hi => ?_
  refine ⟨.inl (aloL_dsD ins), ?_⟩
  refine sq_i ?_
  walk_at "vx"
  simp only [frzL_str]
  refine u_L_rows_3 (by omega) (by omega) (by decide) (by decide) (by omega) nmn fun outs ho => ?_
  refine ⟨.inl (aloL_dsD outs), ?_⟩
  refine sq_i ?_
  walk_at "vx"
  have w0 := Int.emod_nonneg (sh / 15) (show (7 : Int) ≠ 0 by decide)
  have w1 := Int.emod_lt_of_pos (sh / 15) (show (0 : Int) < 7 by decide)
  refine lc_rng1 (j := sh / 15 % 7) (fun Q q => by walk_at "vx"; exact q) (by omega) (by omega) (fun k => .int (sc.getD (20 + 4 * k) 0 / 7 % moods)) (fun k hk => ?_) ?_
  · walk_at "vx"
    refine u_L_cell_at0 (by omega) ⟨.inl rfl, ?_⟩
    walk_at "wx"
    rw [show (20 + 4 * (k : Int)).toNat = 20 + 4 * k by omega]
    exact ⟨by omega, rfl⟩
  generalize sh / 15 % 7 = cnt at w0 w1 ⊢
  rw [show (List.range cnt.toNat).map (fun k : Nat => D.int (sc.getD (20 + 4 * k) 0 / 7 % moods)) = ((List.range cnt.toNat).map fun k : Nat => sc.getD (20 + 4 * k) 0 / 7 % moods).map .int by rw [List.map_map]; rfl]
  refine ⟨true, _, rfl, fun srcs pm srt => ?_⟩
  have sl : srcs.length ≤ 6 := by
    rw [pm.length_eq, List.length_map, List.length_range]; omega
  have sb : ∀ x ∈ srcs, 0 ≤ x ∧ x < moods := fun x hx => by
    obtain ⟨k, _, rfl⟩ := List.mem_map.mp (pm.mem_iff.mp hx)
    exact ⟨Int.emod_nonneg _ (by omega), Int.emod_lt_of_pos _ (by omega)⟩
  refine sq_i ?_
  walk_at "vx"
  refine sq_i ?_
  refine for_rng1 (j := (srcs.length : Int)) (fun Q q => by walk_at "vx"; exact q) (by omega) (by omega)
    (fun k env => ∃ (ws : List Way) (o9 : Option D), env = [some (lI true sc), some (.int sh), some (.int moods), some (lI true es), some (.tup [.lst true (ks.map .str), lI true ss]), some (.lst true (nm.map .str)), some (.int many), some (.str (cutS nzC none (some ah))), some (.lst true (bx.map bxP)), o9,
      some (.lst true (ins.map dsD)), some (.lst true (outs.map dsD)), some (lI true srcs), some (.lst true (ws.map wayD))] ∧ ws.map Way.src = srcs.take k ∧ ∀ w ∈ ws, okWayR moods many w) ⟨[], _, rfl, rfl, fun w m => by cases m⟩ ?_ ?_
  · rintro k _ hk ⟨ws, o9, rfl, hsrc, hws⟩
    walk_at "vx"
    have hb := sb _ (getD_mem (xs := srcs) (k := k) (d := 0) (by omega))
    have lw : ws.length = k := by
      have := congrArg List.length hsrc
      rw [List.length_map, List.length_take] at this
      omega
    refine ⟨by omega, ix_el (by omega) (by omega) (ix_el (by omega) (by omega) ?_)⟩
    rw [show elD srcs (k : Int) = srcs.getD k 0 from by unfold elD; rw [Int.toNat_natCast]]
    generalize hx : srcs.getD k 0 = x at hb ⊢
    refine ix_map (f := D.str) "" hb.1 (by omega) ?_
    refine u_L_way_2 (by omega) b0 (by omega) hb.1 hb.2 (by omega) (nmn _ (getD_mem (by omega))) fun w hs hw => ⟨.inl (alo_way w), ws ++ [w], _, by rw [List.map_append]; rfl, ?_, fun y hy => ?_⟩
    · rw [List.map_append, hsrc, List.map_cons, List.map_nil, hs, ← hx, List.take_add_one, List.getD_eq_getElem?_getD, List.getElem?_eq_getElem (by omega)]; rfl
    · rcases List.mem_append.mp hy with hy | hy
      · exact hws y hy
      · rw [List.mem_singleton.mp hy]; exact hw
  rintro _ ⟨ws, o9, rfl, hsrc, hws⟩
  rw [Int.toNat_natCast, List.take_length] at hsrc
  walk_at "vx"
  suffices h : okPR ⟨bx, nm, ks, es, ss, ins, outs, ws⟩ by
    have := q _ h
    rw [pgL_raw] at this
    exact this
  have wl : ws.length = srcs.length := by rw [← hsrc, List.length_map]
  refine ⟨ok, by show es.length ≤ 100; omega, okk, okc, by show bx.length ≤ 10; omega, bxn, bxd, nml, nmn, nmd, ?_, ?_, by show ws.length ≤ 100; omega, ?_, ?_⟩
  · show okRs (bx.length : Nat) es.length ins
    rw [← hmb, ← nml]; exact hi
  · show okRs (bx.length : Nat) es.length outs
    rw [← hmb, ← nml]; exact ho
  · intro w m
    show okWayR (es.length : Nat) (bx.length : Nat) w
    rw [← hmb, le]; exact hws w m
  · show (ws.map Way.src).Pairwise (· ≤ ·)
    rw [hsrc]; exact srt
-- needs: m_isname
def sp_is_name : SpD := fun ds Q => ∃ t : Str, ds = [.str t] ∧ t.length ≤ 16777216 ∧ Q (.bl (isNameM t))
theorem len_is_name : ∀ ds Q, sp_is_name ds Q → ds.length = 1 := by rintro _ _ ⟨_, rfl, _⟩; rfl
theorem u_is_name {t : Str} {Q : D → Prop} (h : t.length ≤ 16777216) (q : Q (.bl (isNameM t))) : sp_is_name [.str t] Q := ⟨t, rfl, h, q⟩
theorem d_is_name : ∀ ds Q, sp_is_name ds Q → w_is_name { nx := fun _ => Q .non, rt := fun d _ => Q d } (env0 2 ds) := by
  rintro _ Q ⟨t, rfl, hl, q⟩
  unfold w_is_name
  rw [show ("abcdefghijklmnopqrstuvwxyz" : Str) = letL from rfl, show ("0123456789" : Str) = figL from rfl]
  rw [show (["all", "and", "box", "call", "do", "far", "if", "in", "leaf", "near", "on", "one", "open", "out", "put", "say", "shut", "then", "to"] : List Str) = wordsL from rfl]
  refine sq_i ?_
  walk_at "vx"
  rw [m_strs, m_flat]
  simp only [true_and]
  have no : isNameM t = false → Q (.bl false) := fun h => by rw [h] at q; exact q
  refine ⟨fun h => no (by unfold isNameM; rw [decide_eq_true h]; rfl), fun h1 => ⟨hl, fun h => no (by unfold isNameM; rw [decide_eq_false (show ¬ t.length ≤ 12 by omega)]; simp), fun h2 => ⟨fun h => no (by unfold isNameM; rw [h]; simp), fun h3 => ?_⟩⟩⟩
  have ht : 0 < t.length := Nat.pos_of_ne_zero fun e => h1 (str_nil.mpr e)
  refine sq_i ?_
  walk_at "vx"
  refine ix_str hl (by decide) (by omega) ?_
  rw [show (⟨#[t.cps.toList.getD (0 : Int).toNat 0]⟩ : Str) = sgn (t.cps.toList.getD 0 0) from rfl]
  have hs : ∀ (z : Str) c, hasS z (sgn c) = decide (c ∈ z.cps.toList) := fun z c => hasS_sign z c
  rw [hs]
  have base : isNameM t = (decide (t.cps.toList.getD 0 0 ∈ letL.cps.toList) && t.cps.toList.all fun c => decide (c ∈ letL.cps.toList) || decide (c ∈ figL.cps.toList)) := by
    unfold isNameM
    rw [decide_eq_false h1, decide_eq_true (show t.length ≤ 12 by omega), h3]; rfl
  refine ⟨fun h => no (by rw [base, h]; rfl), fun h4 => ?_⟩
  rw [h4, Bool.true_and] at base
  refine sq_i ?_
  refine for_pre (fun c => .str (sgn c)) (xs := t.cps.toList) (fun Q q => by walk_at "vx"; exact q) (fun pre env => ∃ o, env = [some (.str t), o] ∧ (pre.all fun c => decide (c ∈ letL.cps.toList) || decide (c ∈ figL.cps.toList)) = true) ⟨_, rfl, rfl⟩ ?_ ?_
  · rintro pre c post _ e ⟨o, rfl, hp⟩
    have bad : ¬ c ∈ letL.cps.toList → ¬ c ∈ figL.cps.toList → isNameM t = false := fun g1 g2 => by
      rw [base, e, List.all_append, List.all_cons, decide_eq_false g1, decide_eq_false g2]; simp
    have good : (c ∈ letL.cps.toList ∨ c ∈ figL.cps.toList) → ((pre ++ [c]).all fun c => decide (c ∈ letL.cps.toList) || decide (c ∈ figL.cps.toList)) = true := fun g => by
      rw [List.all_append, hp, List.all_cons]
      rcases g with g | g <;> simp [g]
    walk_at "vx"
    rw [hs, hs]
    refine ⟨fun g => ⟨fun g2 => no (bad (of_decide_eq_false g) (of_decide_eq_false g2)), fun g2 => ⟨_, rfl, good (.inr (of_decide_eq_true g2))⟩⟩, fun g => ⟨_, rfl, good (.inl (of_decide_eq_true g))⟩⟩
  · rintro _ ⟨o, rfl, hp⟩
    walk_at "vx"
    rw [base, hp] at q
    exact q
-- needs: m_raw is_name
def badNs (n : Str) : List Str := ["", "to", "Far", "9a", "a-b", "leaf", n ++ " ", " " ++ n, "abcdefghijklm", n ++ "_", "shut", "a.b"]
def badF (c : Int) (n : Str) : Str := (badNs n).getD (c % 12).toNat ""
theorem isName_signs {t : Str} (h : isNameM t = true) : ∀ c ∈ t.cps.toList, c ∈ letL.cps.toList ∨ c ∈ figL.cps.toList := by
  unfold isNameM at h
  simp only [Bool.and_eq_true, decide_eq_true_eq, Bool.not_eq_true', List.all_eq_true, Bool.or_eq_true] at h
  exact h.2.2.2.2
theorem badF_bad (c : Int) (n : Str) : isNameM (badF c n) = false := by
  have hsp : ∀ a b : Str, isNameM (a ++ " " ++ b) = false := fun a b => by
    cases e : isNameM (a ++ " " ++ b) with
    | false => rfl
    | true =>
      have := isName_signs e 32 (by rw [cps_app, cps_app]; simp only [List.mem_append]; exact .inl (.inr (by decide +kernel)))
      exact absurd this (by decide +kernel)
  have hun : ∀ a b : Str, isNameM (a ++ "_" ++ b) = false := fun a b => by
    cases e : isNameM (a ++ "_" ++ b) with
    | false => rfl
    | true =>
      have := isName_signs e 95 (by rw [cps_app, cps_app]; simp only [List.mem_append]; exact .inl (.inr (by decide +kernel)))
      exact absurd this (by decide +kernel)
  have emp : ∀ a : Str, a ++ "" = a := fun a => by
    obtain ⟨a⟩ := a
    show (⟨a ++ (#[] : Array Nat)⟩ : Str) = ⟨a⟩
    rw [Array.append_empty]
  have emp2 : ∀ a : Str, "" ++ a = a := fun a => by
    obtain ⟨a⟩ := a
    show (⟨(#[] : Array Nat) ++ a⟩ : Str) = ⟨a⟩
    rw [Array.empty_append]
  have h6 : isNameM (n ++ " ") = false := by have := hsp n ""; rwa [emp] at this
  have h7 : isNameM (" " ++ n) = false := by have := hsp "" n; rwa [emp2] at this
  have h9 : isNameM (n ++ "_") = false := by have := hun n ""; rwa [emp] at this
  have hc : ∀ t ∈ (["", "to", "Far", "9a", "a-b", "leaf", "abcdefghijklm", "shut", "a.b"] : List Str), isNameM t = false := by decide +kernel
  have all : ∀ t ∈ badNs n, isNameM t = false := fun t m => by
    unfold badNs at m
    simp only [List.mem_cons, List.not_mem_nil, or_false] at m
    rcases m with rfl | rfl | rfl | rfl | rfl | rfl | rfl | rfl | rfl | rfl | rfl | rfl
    all_goals first | assumption | exact hc _ (by decide +kernel)
  exact all _ (getD_mem (by
    have h0 := Int.emod_nonneg c (show (12 : Int) ≠ 0 by decide)
    have h1 := Int.emod_lt_of_pos c (show (0 : Int) < 12 by decide)
    show (c % 12).toNat < 12
    omega))
theorem badF_len (c : Int) (n : Str) : (badF c n).length ≤ n.length + 20 := by
  have all : ∀ t ∈ badNs n, t.length ≤ n.length + 20 := fun t m => by
    have hc : ∀ t ∈ (["", "to", "Far", "9a", "a-b", "leaf", "abcdefghijklm", "shut", "a.b", " ", "_"] : List Str), t.length ≤ 20 := by decide +kernel
    have l1 := hc " " (by decide +kernel)
    have l2 := hc "_" (by decide +kernel)
    have l3 := len_app n " "
    have l4 := len_app " " n
    have l5 := len_app n "_"
    unfold badNs at m
    simp only [List.mem_cons, List.not_mem_nil, or_false] at m
    rcases m with rfl | rfl | rfl | rfl | rfl | rfl | rfl | rfl | rfl | rfl | rfl | rfl
    all_goals first | omega | (refine Nat.le_trans (hc _ (by decide +kernel)) (by omega))
  exact all _ (getD_mem (by
    have h0 := Int.emod_nonneg c (show (12 : Int) ≠ 0 by decide)
    have h1 := Int.emod_lt_of_pos c (show (0 : Int) < 12 by decide)
    show (c % 12).toNat < 12
    omega))
theorem badF_str {c : Int} {n : Str} (h : PyData.strOk n = true) : PyData.strOk (badF c n) = true := by
  have all : ∀ t ∈ badNs n, PyData.strOk t = true := fun t m => by
    have hc : ∀ t ∈ (["", "to", "Far", "9a", "a-b", "leaf", "abcdefghijklm", "shut", "a.b", " ", "_"] : List Str), PyData.strOk t = true := by decide +kernel
    have l1 := hc " " (by decide +kernel)
    have l2 := hc "_" (by decide +kernel)
    unfold badNs at m
    simp only [List.mem_cons, List.not_mem_nil, or_false] at m
    rcases m with rfl | rfl | rfl | rfl | rfl | rfl | rfl | rfl | rfl | rfl | rfl | rfl
    all_goals first | exact strOk_app h l1 | exact strOk_app l1 h | exact strOk_app h l2 | exact hc _ (by decide +kernel)
  exact all _ (getD_mem (by
    have h0 := Int.emod_nonneg c (show (12 : Int) ≠ 0 by decide)
    have h1 := Int.emod_lt_of_pos c (show (0 : Int) < 12 by decide)
    show (c % 12).toNat < 12
    omega))
def sp_L_bad_name : SpD := fun ds Q => ∃ (c : Int) (n : Str), ds = [.int c, .str n] ∧ n.length ≤ 100000 ∧ Q (.str (badF c n))
theorem len_L_bad_name : ∀ ds Q, sp_L_bad_name ds Q → ds.length = 2 := by rintro _ _ ⟨_, _, rfl, _⟩; rfl
theorem u_L_bad_name {c : Int} {n : Str} {Q : D → Prop} (h : n.length ≤ 100000) (q : Q (.str (badF c n))) : sp_L_bad_name [.int c, .str n] Q := ⟨c, n, rfl, h, q⟩
theorem d_L_bad_name : ∀ ds Q, sp_L_bad_name ds Q → w_L_bad_name { nx := fun _ => Q .non, rt := fun d _ => Q d } (env0 3 ds) := by
  rintro _ Q ⟨c, n, rfl, h, q⟩
  have l1 : (" " : Str).length = 1 := by decide +kernel
  have l2 : ("_" : Str).length = 1 := by decide +kernel
  have h0 := Int.emod_nonneg c (show (12 : Int) ≠ 0 by decide)
  have h1 := Int.emod_lt_of_pos c (show (0 : Int) < 12 by decide)
  unfold w_L_bad_name
  refine sq_i ?_
  walk_at "vx"
  refine ⟨by omega, by omega, by omega, ?_⟩
  refine ix_map (f := D.str) (xs := badNs n) "" h0 (by show c % 12 < 12; exact h1) ?_
  exact ⟨rfl, q⟩
-- needs: m_raw L_chart_8 L_bad_name
/-! ### charts to be spoilt: their sizes -/
def sGD : GDeed → Prop
  | .put _ _ => True
  | .call s => PyData.strOk s = true
  | .three k s _ => PyData.strOk k = true ∧ PyData.strOk s = true
def sGA : GAsk → Prop
  | .op _ _ => True
  | .nu m _ _ => PyData.strOk m = true
structure sGW (w : GWay) : Prop where
  sg : PyData.strOk w.sign = true
  md : PyData.strOk w.mode = true
  as : ∀ a ∈ w.asks, sGA a
  ds : ∀ d ∈ w.deeds, sGD d
theorem eqOk_gd {d : GDeed} (h : sGD d) (n : Nat) : eqOk (gdD d) (n + 2) = true := by
  cases d with
  | put b t =>
    show (PyData.strOk "put" && true) = true
    decide +kernel
  | call s =>
    show (PyData.strOk "call" && (PyData.strOk s && true)) = true
    rw [show PyData.strOk s = true from h]; decide +kernel
  | three k s t =>
    show (PyData.strOk k && (PyData.strOk s && (true && true))) = true
    rw [show PyData.strOk k = true from h.1, show PyData.strOk s = true from h.2]; rfl
theorem eqOk_ga {a : GAsk} (h : sGA a) (n : Nat) : eqOk (gaD a) (n + 2) = true := by
  cases a with
  | op b k =>
    cases b
    · show (PyData.strOk "shut" && true) = true
      decide +kernel
    · show (PyData.strOk "open" && true) = true
      decide +kernel
  | nu m x y =>
    show (PyData.strOk m && (true && (true && true))) = true
    rw [show PyData.strOk m = true from h]; rfl
theorem eqOkL_of {ds : List D} {n : Nat} (h : ∀ d ∈ ds, eqOk d n = true) : eqOkL ds n = true := by rw [eqOkL_all, List.all_eq_true]; exact h
theorem eqOk_gw {w : GWay} (h : sGW w) (n : Nat) : eqOk (gwD w) (n + 4) = true := by
  show (true && (PyData.strOk w.sign && (eqOkL (w.asks.map gaD) (n + 2) && (eqOkL (w.deeds.map gdD) (n + 2) && (true && (PyData.strOk w.mode && true)))))) = true
  rw [h.sg, h.md, eqOkL_of (fun d m => by obtain ⟨a, ha, rfl⟩ := List.mem_map.mp m; exact eqOk_ga (h.as a ha) n), eqOkL_of (fun d m => by obtain ⟨a, ha, rfl⟩ := List.mem_map.mp m; exact eqOk_gd (h.ds a ha) n)]; rfl
theorem eqOk_gws {ws : List GWay} (h : ∀ w ∈ ws, sGW w) (m : Bool) : eqOk (.lst m (ws.map gwD)) 60 = true := by
  show eqOkL _ 59 = true
  exact eqOkL_of fun d hd => by obtain ⟨w, hw, rfl⟩ := List.mem_map.mp hd; exact eqOk_gw (h w hw) 55
theorem eqOk_bxs {bs : List (Str × Int)} (h : ∀ b ∈ bs, PyData.strOk b.1 = true) (m : Bool) : eqOk (.lst m (bs.map bxP)) 60 = true := by
  show eqOkL _ 59 = true
  refine eqOkL_of fun d hd => ?_
  obtain ⟨b, hb, rfl⟩ := List.mem_map.mp hd
  show (PyData.strOk b.1 && (true && true)) = true
  rw [h b hb]; rfl
/-- a list of whatever is none just where it is -/
theorem deq_nil {α : Type} (f : α → D) (xs : List α) (m m2 : Bool) : deq (.lst m (xs.map f)) (.lst m2 []) = decide (xs = []) := by
  cases xs with
  | nil => rfl
  | cons x xs => rfl
structure fS (P : PG) (n : Nat) : Prop where
  ks : P.ks.length ≤ 100 + n
  es : P.es.length ≤ 100 + n
  ss : P.ss.length ≤ 100 + n
  nl : P.nm.length ≤ 100 + n
  nm : ∀ s ∈ P.nm, s.length ≤ 100 + 40 * n
  bl : P.bx.length ≤ 100 + n
  bx : ∀ b ∈ P.bx, b.1.length ≤ 100 + 40 * n
  il : P.ins.length ≤ 500 + n
  ol : P.outs.length ≤ 500 + n
  wl : P.ways.length ≤ 500 + n
  rl : ∀ ds ∈ P.ins ++ P.outs, ds.length ≤ 1000 + n
  ds : ∀ ds ∈ P.ins ++ P.outs ++ P.ways.map GWay.deeds, ∀ d ∈ ds, fGD d
  sg : ∀ w ∈ P.ways, w.sign.length ≤ 16777216
  al : ∀ w ∈ P.ways, w.asks.length ≤ 1000 + n
  as : ∀ w ∈ P.ways, ∀ a ∈ w.asks, fGA a
  be : ∀ b ∈ P.bx, PyData.strOk b.1 = true
  we : ∀ w ∈ P.ways, sGW w
theorem sGD_raw {d : Deed} (h : nmDe d) : sGD (rawDe d) := by
  cases d with
  | put b t => trivial
  | call s => exact (isName_ok h).1
  | say s t => exact ⟨by decide +kernel, (isName_ok h).1⟩
theorem sGA_raw (a : Ask) : sGA (rawAs a) := by
  cases a with
  | op b k => trivial
  | nu m x y => cases m <;> (show PyData.strOk _ = true; decide +kernel)
theorem fS.form {P : PG} {n : Nat} (h : fS P n) (hn : n ≤ 20) : fPG P :=
  ⟨by have := h.ks; omega, by have := h.es; omega, by have := h.ss; omega, by have := h.nl; omega, fun s m => by have := h.nm s m; omega, by have := h.bl; omega, fun b m => by have := h.bx b m; omega, by have := h.il; omega, by have := h.ol; omega, by have := h.wl; omega, h.ds, h.sg, h.as⟩
theorem okPR.fs {P : PB} (h : okPR P) : fS P.raw 0 := by
  have f := h.form
  have l1 := h.many
  have l2 := h.kk.1
  have l3 := h.hs.1
  have l4 := h.nl
  have l5 := h.bl
  have l6 := h.ins.1
  have l7 := h.outs.1
  have l8 := h.wl
  refine ⟨by show P.ks.length ≤ 100; omega, by show P.es.length ≤ 100; omega, by show P.ss.length ≤ 100; omega, by show P.nm.length ≤ 100; omega, fun s m => ?_, by show P.bx.length ≤ 100; omega, fun b m => ?_, ?_, ?_, ?_, ?_, f.ds, f.sg, ?_, f.as, ?_, ?_⟩
  · have := (isName_ok (h.nm s m)).2
    omega
  · have := (isName_ok (h.bx b m).1).2
    omega
  · show (P.ins.map _).length ≤ 500
    rw [List.length_map]; omega
  · show (P.outs.map _).length ≤ 500
    rw [List.length_map]; omega
  · show (P.ways.map _).length ≤ 500
    rw [List.length_map]; omega
  · intro ds m
    rcases List.mem_append.mp m with m | m
    · obtain ⟨es, he, rfl⟩ := List.mem_map.mp m
      have := (h.ins.2 es he).1
      rw [List.length_map]; omega
    · obtain ⟨es, he, rfl⟩ := List.mem_map.mp m
      have := (h.outs.2 es he).1
      rw [List.length_map]; omega
  · intro w m
    obtain ⟨v, hv, rfl⟩ := List.mem_map.mp m
    have := (h.ways v hv).asks
    show (v.asks.map _).length ≤ 1000
    rw [List.length_map]; omega
  · intro b m
    exact (isName_ok (h.bx b m).1).1
  · intro w m
    obtain ⟨v, hv, rfl⟩ := List.mem_map.mp m
    have hw := h.ways v hv
    refine ⟨(isName_ok hw.sign).1, ?_, fun a ha => ?_, fun d hd => ?_⟩
    · show PyData.strOk v.mode = true
      rcases hw.ok.mode with e | e | e <;> rw [e] <;> decide +kernel
    · obtain ⟨b, hb, rfl⟩ := List.mem_map.mp ha
      exact sGA_raw b
    · obtain ⟨e, he, rfl⟩ := List.mem_map.mp hd
      exact sGD_raw (hw.deeds.2 e he).2
theorem fS.up {P : PG} {n m : Nat} (h : fS P n) (hn : n ≤ m) : fS P m :=
  ⟨by have := h.ks; omega, by have := h.es; omega, by have := h.ss; omega, by have := h.nl; omega, fun s m => by have := h.nm s m; omega, by have := h.bl; omega, fun b m => by have := h.bx b m; omega, by have := h.il; omega, by have := h.ol; omega, by have := h.wl; omega, fun ds m => by have := h.rl ds m; omega, h.ds, h.sg, fun w m => by have := h.al w m; omega, h.as, h.be, h.we⟩
/-! ### what breaks a tree -/
theorem elD_set {es : List Int} {k : Nat} {x : Int} {j : Nat} (h : k < es.length) : elD (es.set k x) (j : Nat) = if j = k then x else elD es (j : Nat) := by
  unfold elD
  rw [Int.toNat_natCast, List.getD_eq_getElem?_getD, List.getD_eq_getElem?_getD, List.getElem?_set]
  by_cases e : k = j
  · subst e; rw [if_pos rfl, if_pos rfl, if_pos h]; rfl
  · rw [if_neg e, if_neg (fun z => e z.symm)]
theorem kdM_set {ks : List Str} {k : Nat} {x : Str} {j : Nat} (h : k < ks.length) : kdM (ks.set k x) (j : Nat) = if j = k then x else kdM ks (j : Nat) := by
  unfold kdM
  rw [Int.toNat_natCast, List.getD_eq_getElem?_getD, List.getD_eq_getElem?_getD, List.getElem?_set]
  by_cases e : k = j
  · subst e; rw [if_pos rfl, if_pos rfl, if_pos h]; rfl
  · rw [if_neg e, if_neg (fun z => e z.symm)]
theorem bad_elder {es : List Int} {k : Nat} {x : Int} (h : k < es.length) (hx : (k : Int) ≤ x ∨ (k = 0 ∧ x ≠ -1) ∨ (0 < k ∧ x < 0)) : ¬ okTree (es.set k x) := fun t => by
  have l : (es.set k x).length = es.length := List.length_set
  by_cases e : k = 0
  · subst e
    have := t.root
    rw [show (0 : Int) = ((0 : Nat) : Int) from rfl, elD_set h, if_pos rfl] at this
    omega
  · have := t.lt k (by omega) (by omega)
    rw [elD_set h, if_pos rfl] at this
    omega
theorem len_set_map {α : Type} {f : α → D} {xs : List α} {k : Nat} {x : α} : (xs.map f).set k (f x) = (xs.set k x).map f := (List.map_set ..).symm
theorem bad_kind {es : List Int} {ks : List Str} {k : Nat} {x : Str} (hl : ks.length = es.length) (h : k < ks.length) (hx : (x ≠ "leaf" ∧ x ≠ "all" ∧ x ≠ "one") ∨ (innerM es k = [] ∧ x ≠ "leaf") ∨ (innerM es k ≠ [] ∧ x = "leaf")) : ¬ okKs es (ks.set k x) := fun z => by
  have n1 : ("all" : Str) ≠ "leaf" ∧ ("one" : Str) ≠ "leaf" := by decide +kernel
  have := z.2 k (by omega)
  rw [kdM_set h, if_pos rfl] at this
  rcases hx with ⟨a, b, c⟩ | ⟨a, b⟩ | ⟨a, b⟩
  · rcases this with ⟨_, e⟩ | ⟨_, e | e⟩
    · exact a e
    · exact b e
    · exact c e
  · rcases this with ⟨_, e⟩ | ⟨e, _⟩
    · exact b e
    · exact e a
  · rcases this with ⟨e, _⟩ | ⟨_, e | e⟩
    · exact a e
    · exact n1.1 (e.symm.trans b)
    · exact n1.2 (e.symm.trans b)
theorem bad_start {es ss : List Int} {ks : List Str} {k : Nat} {x : Int} (h : k < ss.length) (hl : ss.length = es.length) (hx : (kdM ks k = "one" ∧ x ∉ innerM es k) ∨ (kdM ks k ≠ "one" ∧ x ≠ -1)) : ¬ okCh es ks (ss.set k x) := fun z => by
  have := z.2 k (by omega)
  rw [elD_set h, if_pos rfl] at this
  rcases hx with ⟨a, b⟩ | ⟨a, b⟩
  · exact b (this.1 a)
  · exact b (this.2 a)
theorem not_nodup {α : Type} {l : List α} {i j : Nat} (hi : i < l.length) (hj : j < l.length) (ne : i ≠ j) (e : l[i] = l[j]) : ¬ l.Nodup := fun h => by
  have h := List.pairwise_iff_getElem.mp h
  rcases Nat.lt_or_gt_of_ne ne with lt | lt
  · exact h i j hi hj lt e
  · exact h j i hj hi lt e.symm
-- needs: m_spoil
theorem fig2_len (k : Nat) (h : k < 14) : (Str.ofString (toString (k : Int))).length ≤ 2 := by
  have : ∀ j : _root_.Fin 14, (Str.ofString (toString ((j.val : Nat) : Int))).length ≤ 2 := by decide +kernel
  exact this ⟨k, h⟩
def sp_L_spoil_tree : SpM := fun ds Q => ∃ P c n, ds = [.lst true (pgL P), .int c] ∧ fS P n ∧ n ≤ 10 ∧ lkN P ∧ lkK P ∧ ∀ P', fS P' (n + 1) → ¬ (lkN P' ∧ lkK P') → Q .non [.lst true (pgL P'), .int c]
theorem len_L_spoil_tree : ∀ ds Q, sp_L_spoil_tree ds Q → ds.length = 2 := by rintro _ _ ⟨_, _, _, rfl, _⟩; rfl
theorem u_L_spoil_tree {P : PG} {c : Int} {n : Nat} {Q : D → List D → Prop} (h : fS P n) (hn : n ≤ 10) (hN : lkN P) (hK : lkK P) (q : ∀ P', fS P' (n + 1) → ¬ (lkN P' ∧ lkK P') → Q .non [.lst true (pgL P'), .int c]) : sp_L_spoil_tree [.lst true (pgL P), .int c] Q := ⟨P, c, n, rfl, h, hn, hN, hK, q⟩
theorem d_L_spoil_tree : ∀ ds Q, sp_L_spoil_tree ds Q → w_L_spoil_tree { nx := fun env => ∃ ds', backD [0] env 0 ds = some ds' ∧ Q .non ds', rt := fun d env => ∃ ds', backD [0] env 0 ds = some ds' ∧ Q d ds' } (env0 6 ds) := by
  rintro _ Q ⟨P, c, n, rfl, f, hn, hN, hK, q⟩
  obtain ⟨l1, l2, l3, tr⟩ := hN
  have one := tr.one
  have fk := f.ks
  unfold w_L_spoil_tree pgL
  refine sq_i ?_
  walk_at "vx"
  refine sq_i ?_
  walk_at "vx"
  refine ⟨by omega, ?_⟩
  have a0 := Int.emod_nonneg (c / 10) (show (P.nm.length : Int) ≠ 0 by omega)
  have a1 := Int.emod_lt_of_pos (c / 10) (show (0 : Int) < P.nm.length by omega)
  generalize hat : c / 10 % (P.nm.length : Int) = at_ at a0 a1 ⊢
  refine sq_i ?_
  walk_at "vx"
  have w0 := Int.emod_nonneg c (show (10 : Int) ≠ 0 by decide)
  have w1 := Int.emod_lt_of_pos c (show (0 : Int) < 10 by decide)
  generalize hw : c % 10 = way at w0 w1 ⊢
  obtain ⟨atn, rfl⟩ : ∃ k : Nat, at_ = (k : Int) := ⟨at_.toNat, by omega⟩
  have hnp : atn < P.ks.length := by omega
  have mk : ∀ {xs : List D} {d : D} {k : Int} {Q2 : Nat → Prop}, 0 ≤ k → k < xs.length → Q2 k.toNat → ∃ j, ixN xs.length k = some j ∧ Q2 j := fun h0 h1 q2 => ⟨_, ixN_int h0 h1, q2⟩
  have fin : ∀ es', es'.length = P.es.length → ¬ okTree es' → ∃ ds', backD [0] [some (.lst true [.lst true (P.bx.map bxP), .lst true (P.nm.map .str), .lst true (P.ks.map .str), .lst true (es'.map .int), lI true P.ss, .lst true (P.ins.map gdsD), .lst true (P.outs.map gdsD), .lst true (P.ways.map gwD)]), some (.int c), some (.int P.nm.length), some (.int (atn : Int)), some (.int way), none] 0 [.lst true [.lst true (P.bx.map bxP), .lst true (P.nm.map .str), .lst true (P.ks.map .str), lI true P.es, lI true P.ss, .lst true (P.ins.map gdsD), .lst true (P.outs.map gdsD), .lst true (P.ways.map gwD)], .int c] = some ds' ∧ Q .non ds' := fun es' hl hb => by
    refine ⟨_, rfl, q { P with es := es' } ?_ fun z => hb z.1.2.2.2⟩
    have f1 := f.up (Nat.le_succ n)
    exact { f1 with es := by have := f1.es; show es'.length ≤ _; rw [hl]; exact this }
  have finK : ∀ ks', ks'.length = P.ks.length → ¬ okKs P.es ks' → ∃ ds', backD [0] [some (.lst true [.lst true (P.bx.map bxP), .lst true (P.nm.map .str), .lst true (ks'.map .str), lI true P.es, lI true P.ss, .lst true (P.ins.map gdsD), .lst true (P.outs.map gdsD), .lst true (P.ways.map gwD)]), some (.int c), some (.int P.nm.length), some (.int (atn : Int)), some (.int way), none] 0 [.lst true [.lst true (P.bx.map bxP), .lst true (P.nm.map .str), .lst true (P.ks.map .str), lI true P.es, lI true P.ss, .lst true (P.ins.map gdsD), .lst true (P.outs.map gdsD), .lst true (P.ways.map gwD)], .int c] = some ds' ∧ Q .non ds' := fun ks' hl hb => by
    refine ⟨_, rfl, q { P with ks := ks' } ?_ fun z => hb z.2.1⟩
    have f1 := f.up (Nat.le_succ n)
    exact { f1 with ks := by have := f1.ks; show ks'.length ≤ _; rw [hl]; exact this }
  have finS : ∀ ks' ss', ks'.length = P.ks.length → ss'.length = P.ss.length → ¬ (okKs P.es ks' ∧ okCh P.es ks' ss') → ∃ ds', backD [0] [some (.lst true [.lst true (P.bx.map bxP), .lst true (P.nm.map .str), .lst true (ks'.map .str), lI true P.es, .lst true (ss'.map .int), .lst true (P.ins.map gdsD), .lst true (P.outs.map gdsD), .lst true (P.ways.map gwD)]), some (.int c), some (.int P.nm.length), some (.int (atn : Int)), some (.int way), none] 0 [.lst true [.lst true (P.bx.map bxP), .lst true (P.nm.map .str), .lst true (P.ks.map .str), lI true P.es, lI true P.ss, .lst true (P.ins.map gdsD), .lst true (P.outs.map gdsD), .lst true (P.ways.map gwD)], .int c] = some ds' ∧ Q .non ds' := fun ks' ss' hl hl2 hb => by
    refine ⟨_, rfl, q { P with ks := ks', ss := ss' } ?_ fun z => hb z.2⟩
    have f1 := f.up (Nat.le_succ n)
    exact { f1 with ks := (by have := f1.ks; show ks'.length ≤ _; rw [hl]; exact this), ss := (by have := f1.ss; show ss'.length ≤ _; rw [hl2]; exact this) }
  refine ⟨fun h => ?_, fun h0 => ⟨fun h => ?_, fun h1 => ⟨fun h => ?_, fun h2 => ⟨fun h => ?_, fun h3 => ⟨fun h => ?_, fun h4 => ⟨fun h => ?_, fun h5 => ⟨fun h => ?_, fun h6 => ⟨fun h => ?_, fun h7 => ⟨fun h => ?_, fun h8 => ?_⟩⟩⟩⟩⟩⟩⟩⟩⟩
  · refine ⟨_, ixN_nat (by omega), ?_⟩
    rw [len_set_map]
    exact fin _ List.length_set (bad_elder (by omega) (.inl (Int.le_refl _)))
  · refine ⟨_, ixN_nat (by omega), ?_⟩
    rw [len_set_map]
    exact fin _ List.length_set (bad_elder (by omega) (.inl (by omega)))
  · refine ⟨_, ixN_nat (by omega), ?_⟩
    rw [len_set_map]
    refine fin _ List.length_set (bad_elder (by omega) ?_)
    split <;> omega
  · have m0 := Int.emod_nonneg (c / 700) (show (4 : Int) ≠ 0 by decide)
    have m1 := Int.emod_lt_of_pos (c / 700) (show (0 : Int) < 4 by decide)
    refine ix_map (f := D.str) (xs := ["ones", "", "One", "leafs"]) "" m0 (by show c / 700 % 4 < 4; exact m1) ⟨rfl, _, ixN_nat (by omega), ?_⟩
    rw [len_set_map]
    refine finK _ List.length_set (bad_kind (by omega) hnp (.inl ?_))
    have hm : (["ones", "", "One", "leafs"] : List Str).getD (c / 700 % 4).toNat "" ∈ (["ones", "", "One", "leafs"] : List Str) := getD_mem (by show (c / 700 % 4).toNat < 4; omega)
    generalize (["ones", "", "One", "leafs"] : List Str).getD (c / 700 % 4).toNat "" = kd at hm ⊢
    have : ∀ kd ∈ (["ones", "", "One", "leafs"] : List Str), kd ≠ "leaf" ∧ kd ≠ "all" ∧ kd ≠ "one" := by decide +kernel
    exact this kd hm
  · have hkind := hK.1.2 atn (by omega)
    refine sq_i ?_
    walk_at "vx"
    refine ix_kd hnp ?_
    by_cases hl : kdM P.ks atn = "leaf"
    · walk_at "vx"
      rw [if_pos hl]
      walk_at "vx"
      refine ⟨_, ixN_nat hnp, ?_⟩
      rw [show ixN 8 4 = some 4 from rfl]
      refine ⟨_, rfl, _, rfl, _, rfl, _, ixN_nat (by rw [List.length_map]; omega), ?_⟩
      rw [len_set_map, len_set_map]
      refine finS _ _ List.length_set List.length_set fun z => bad_kind (by omega) hnp (.inr (.inl ⟨?_, by decide +kernel⟩)) z.1
      rcases hkind with ⟨e, _⟩ | ⟨_, e | e⟩
      · exact e
      · rw [e] at hl; exact absurd hl (by decide +kernel)
      · rw [e] at hl; exact absurd hl (by decide +kernel)
    · walk_at "vx"
      rw [if_neg hl]
      walk_at "vx"
      refine ⟨_, ixN_nat hnp, ?_⟩
      rw [show ixN 8 4 = some 4 from rfl]
      refine ⟨_, rfl, _, rfl, _, rfl, _, ixN_nat (by rw [List.length_map]; omega), ?_⟩
      rw [len_set_map, len_set_map]
      refine finS _ _ List.length_set List.length_set fun z => bad_kind (by omega) hnp (.inr (.inr ⟨?_, rfl⟩)) z.1
      rcases hkind with ⟨_, e⟩ | ⟨e, _⟩
      · exact absurd e hl
      · exact e
  · have hst : ∀ x : Int, ((kdM P.ks atn = "one" ∧ (x = -1 ∨ x = atn)) ∨ (kdM P.ks atn ≠ "one" ∧ 0 ≤ x)) → ¬ (okKs P.es P.ks ∧ okCh P.es P.ks (P.ss.set atn x)) := fun x hx z => by
      refine bad_start (by omega) (by omega) ?_ z.2
      rcases hx with ⟨a, b⟩ | ⟨a, b⟩
      · refine .inl ⟨a, fun m => ?_⟩
        obtain ⟨m1, m2, m3⟩ := mem_innerM.mp m
        rcases b with b | b
        · omega
        · have := tr.ok.int m1 m2
          omega
      · exact .inr ⟨a, by omega⟩
    have goal : ∀ x : Int, ((kdM P.ks atn = "one" ∧ (x = -1 ∨ x = atn)) ∨ (kdM P.ks atn ≠ "one" ∧ 0 ≤ x)) → ∃ j, ixN 8 4 = some j ∧ ∃ d, ([.lst true (P.bx.map bxP), .lst true (P.nm.map .str), .lst true (P.ks.map .str), lI true P.es, lI true P.ss, .lst true (P.ins.map gdsD), .lst true (P.outs.map gdsD), .lst true (P.ways.map gwD)] : List D)[j]? = some d ∧ ∃ xs, d = .lst true xs ∧ ∃ j1, ixN xs.length (atn : Int) = some j1 ∧ ∃ ds', backD [0] [some (.lst true (([.lst true (P.bx.map bxP), .lst true (P.nm.map .str), .lst true (P.ks.map .str), lI true P.es, lI true P.ss, .lst true (P.ins.map gdsD), .lst true (P.outs.map gdsD), .lst true (P.ways.map gwD)] : List D).set j (.lst true (xs.set j1 (.int x))))), some (.int c), some (.int P.nm.length), some (.int (atn : Int)), some (.int way), none] 0 [.lst true [.lst true (P.bx.map bxP), .lst true (P.nm.map .str), .lst true (P.ks.map .str), lI true P.es, lI true P.ss, .lst true (P.ins.map gdsD), .lst true (P.outs.map gdsD), .lst true (P.ways.map gwD)], .int c] = some ds' ∧ Q .non ds' := fun x hx => by
      refine ⟨4, rfl, _, rfl, _, rfl, _, ixN_nat (by rw [List.length_map]; omega), ?_⟩
      rw [len_set_map]
      exact finS _ _ rfl List.length_set (hst x hx)
    rcases (show c / 700 % 2 = 0 ∨ c / 700 % 2 = 1 by omega) with e | e <;> rw [e] <;> walk_at "vx" <;> refine ix_kd hnp ?_ <;> by_cases hl : kdM P.ks atn = "one"
    · walk_at "vx"
      rw [if_pos hl]
      walk_at "vx"
      exact goal _ (.inl ⟨hl, .inl rfl⟩)
    · walk_at "vx"
      rw [if_neg hl]
      walk_at "vx"
      exact goal _ (.inr ⟨hl, by omega⟩)
    · walk_at "vx"
      rw [if_pos hl]
      walk_at "vx"
      exact goal _ (.inl ⟨hl, .inr rfl⟩)
    · walk_at "vx"
      rw [if_neg hl]
      walk_at "vx"
      exact goal _ (.inr ⟨hl, by omega⟩)
  · refine sq_i ?_
    walk_at "vx"
    have e1 : (P.nm.map D.str).take ((atn : Int)).toNat ++ [D.str "more"] ++ (P.nm.map D.str).drop ((atn : Int)).toNat = (P.nm.take atn ++ (["more"] : List Str) ++ P.nm.drop atn).map D.str := by
      rw [Int.toNat_natCast, List.map_append, List.map_append, List.map_take, List.map_drop]; rfl
    rw [e1]
    have lnm : (P.nm.take atn ++ (["more"] : List Str) ++ P.nm.drop atn).length = P.nm.length + 1 := by
      rw [List.length_append, List.length_append, List.length_take, List.length_drop]
      show _ + 1 + _ = _
      omega
    have hln : ∀ s ∈ P.nm.take atn ++ (["more"] : List Str) ++ P.nm.drop atn, s.length ≤ 100 + 40 * (n + 1) := fun s m => by
      simp only [List.mem_append, List.mem_singleton] at m
      rcases m with (m | m) | m
      · have := f.nm s (List.mem_of_mem_take m)
        omega
      · rw [m]
        have : ("more" : Str).length = 4 := by decide +kernel
        omega
      · have := f.nm s (List.mem_of_mem_drop m)
        omega
    generalize P.nm.take atn ++ (["more"] : List Str) ++ P.nm.drop atn = nm2 at lnm hln ⊢
    have goal : ∀ i : Nat, i ≠ P.nm.length → ∃ ds', backD [0] [some (.lst true [.lst true (P.bx.map bxP), .lst true (cutD (nm2.map D.str) none (some (i : Int))), .lst true (P.ks.map .str), lI true P.es, lI true P.ss, .lst true (P.ins.map gdsD), .lst true (P.outs.map gdsD), .lst true (P.ways.map gwD)]), some (.int c), some (.int P.nm.length), some (.int (atn : Int)), some (.int way), none] 0 [.lst true [.lst true (P.bx.map bxP), .lst true (P.nm.map .str), .lst true (P.ks.map .str), lI true P.es, lI true P.ss, .lst true (P.ins.map gdsD), .lst true (P.outs.map gdsD), .lst true (P.ways.map gwD)], .int c] = some ds' ∧ Q .non ds' := fun i hi => by
      rw [cutD_to _ (by omega), Int.toNat_natCast, ← List.map_take]
      refine ⟨_, rfl, q { P with nm := nm2.take i } ?_ fun z => ?_⟩
      · have f1 := f.up (Nat.le_succ n)
        have fl := f.nl
        exact { f1 with nl := (by show (nm2.take i).length ≤ _; rw [List.length_take]; omega), nm := fun s m => hln s (List.mem_of_mem_take m) }
      · have := z.1.2.2.1
        have e2 : (nm2.take i).length = P.ks.length := this
        rw [List.length_take] at e2
        omega
    refine ⟨by omega, by omega, by omega, ?_⟩
    rcases (show c / 700 % 2 = 0 ∨ c / 700 % 2 = 1 by omega) with e | e <;> rw [e] <;> walk_at "vx"
    · exact ⟨noOwnL_str _, goal (P.nm.length + 1) (by omega)⟩
    · refine ⟨noOwnL_str _, ?_⟩
      have := goal (P.nm.length - 1) (by omega)
      rw [show ((P.nm.length - 1 : Nat) : Int) = (P.nm.length : Int) - 1 by omega] at this
      exact this
  · refine sq_i ?_
    have goalE : ∀ es' : List Int, es'.length ≠ P.ks.length → es'.length ≤ P.es.length + 1 → ∃ ds', backD [0] [some (.lst true [.lst true (P.bx.map bxP), .lst true (P.nm.map .str), .lst true (P.ks.map .str), .lst true (es'.map .int), lI true P.ss, .lst true (P.ins.map gdsD), .lst true (P.outs.map gdsD), .lst true (P.ways.map gwD)]), some (.int c), some (.int P.nm.length), some (.int (atn : Int)), some (.int way), none] 0 [.lst true [.lst true (P.bx.map bxP), .lst true (P.nm.map .str), .lst true (P.ks.map .str), lI true P.es, lI true P.ss, .lst true (P.ins.map gdsD), .lst true (P.outs.map gdsD), .lst true (P.ways.map gwD)], .int c] = some ds' ∧ Q .non ds' := fun es' hl hl2 => by
      refine ⟨_, rfl, q { P with es := es' } ?_ fun z => hl z.1.1⟩
      have f1 := f.up (Nat.le_succ n)
      have fl := f.es
      exact { f1 with es := by show es'.length ≤ _; omega }
    have goalS : ∀ ss' : List Int, ss'.length ≠ P.ks.length → ss'.length ≤ P.ss.length + 1 → ∃ ds', backD [0] [some (.lst true [.lst true (P.bx.map bxP), .lst true (P.nm.map .str), .lst true (P.ks.map .str), lI true P.es, .lst true (ss'.map .int), .lst true (P.ins.map gdsD), .lst true (P.outs.map gdsD), .lst true (P.ways.map gwD)]), some (.int c), some (.int P.nm.length), some (.int (atn : Int)), some (.int way), none] 0 [.lst true [.lst true (P.bx.map bxP), .lst true (P.nm.map .str), .lst true (P.ks.map .str), lI true P.es, lI true P.ss, .lst true (P.ins.map gdsD), .lst true (P.outs.map gdsD), .lst true (P.ways.map gwD)], .int c] = some ds' ∧ Q .non ds' := fun ss' hl hl2 => by
      refine ⟨_, rfl, q { P with ss := ss' } ?_ fun z => hl z.1.2.1⟩
      have f1 := f.up (Nat.le_succ n)
      have fl := f.ss
      exact { f1 with ss := by show ss'.length ≤ _; omega }
    rcases (show c / 700 % 2 = 0 ∨ c / 700 % 2 = 1 by omega) with e | e
    · walk_at "vx"
      rw [e]
      refine ⟨3, rfl, _, rfl, _, rfl, by rw [List.length_map]; omega, fun _ => ⟨_, rfl, ?_⟩, fun _ => ?_⟩
      · rw [show P.es.map D.int ++ [D.int (-1)] = (P.es ++ [-1]).map .int by rw [List.map_append]; rfl]
        refine ⟨noOwnL_map D.int (fun _ => rfl) _, 3, rfl, ?_⟩
        rw [show ((P.nm.length : Int) - 1) = ((P.nm.length - 1 : Nat) : Int) by omega, cutD_to _ (by omega), Int.toNat_natCast, ← List.map_take]
        have ll : ((P.es ++ [-1]).take (P.nm.length - 1)).length = P.nm.length - 1 := by rw [List.length_take, List.length_append]; show min _ (_ + 1) = _; omega
        exact goalE _ (by omega) (by omega)
      · rw [show P.es.map D.int ++ [D.int (-1)] = (P.es ++ [-1]).map .int by rw [List.map_append]; rfl]
        have ll : (P.es ++ [(-1 : Int)]).length = P.es.length + 1 := by rw [List.length_append]; rfl
        exact goalE _ (by omega) (by omega)
    · walk_at "vx"
      rw [e]
      refine ⟨4, rfl, _, rfl, _, rfl, by rw [List.length_map]; omega, fun _ => ⟨_, rfl, ?_⟩, fun _ => ?_⟩
      · rw [show P.ss.map D.int ++ [D.int (-1)] = (P.ss ++ [-1]).map .int by rw [List.map_append]; rfl]
        refine ⟨noOwnL_map D.int (fun _ => rfl) _, 4, rfl, ?_⟩
        rw [show ((P.nm.length : Int) - 1) = ((P.nm.length - 1 : Nat) : Int) by omega, cutD_to _ (by omega), Int.toNat_natCast, ← List.map_take]
        have ll : ((P.ss ++ [-1]).take (P.nm.length - 1)).length = P.nm.length - 1 := by rw [List.length_take, List.length_append]; show min _ (_ + 1) = _; omega
        exact goalS _ (by omega) (by omega)
      · rw [show P.ss.map D.int ++ [D.int (-1)] = (P.ss ++ [-1]).map .int by rw [List.map_append]; rfl]
        have ll : (P.ss ++ [(-1 : Int)]).length = P.ss.length + 1 := by rw [List.length_append]; rfl
        exact goalS _ (by omega) (by omega)
  · refine for_rng2 (lo := 1) (j := 7) (fun Q q => by walk_at "vx"; exact q) (by omega) (by omega) (by omega) (by omega)
      (fun k env => ∃ o : Option D, env = [some (.lst true [.lst true (P.bx.map bxP), if 1 < k then .lst true [] else .lst true (P.nm.map .str), if 2 < k then .lst true [] else .lst true (P.ks.map .str), if 3 < k then .lst true [] else lI true P.es, if 4 < k then .lst true [] else lI true P.ss, if 5 < k then .lst true [] else .lst true (P.ins.map gdsD), if 6 < k then .lst true [] else .lst true (P.outs.map gdsD), .lst true (P.ways.map gwD)]),
        some (.int c), some (.int P.nm.length), some (.int (atn : Int)), some (.int way), o]) ⟨_, rfl⟩ ?_ ?_
    · rintro k _ k1 k2 ⟨o, rfl⟩
      walk_at "vx"
      refine ⟨_, ixN_int (by omega) (by omega), some (.int k), ?_⟩
      · rcases (show k = 1 ∨ k = 2 ∨ k = 3 ∨ k = 4 ∨ k = 5 ∨ k = 6 by omega) with rfl | rfl | rfl | rfl | rfl | rfl <;> rfl
    · rintro _ ⟨o, rfl⟩
      refine ⟨_, rfl, q { P with nm := [], ks := [], es := [], ss := [], ins := [], outs := [] } ?_ fun z => ?_⟩
      · have f1 := f.up (Nat.le_succ n)
        exact { f1 with ks := Nat.zero_le _, es := Nat.zero_le _, ss := Nat.zero_le _, nl := Nat.zero_le _, nm := (fun _ h => absurd h List.not_mem_nil), il := Nat.zero_le _, ol := Nat.zero_le _, rl := (fun _ h => absurd h List.not_mem_nil), ds := fun ds m => f1.ds ds (List.mem_append_right _ (by simpa using m)) }
      · have h1 : 1 ≤ ([] : List Int).length := z.1.2.2.2.one
        exact absurd h1 (by decide)
  · refine sq_i ?_
    walk_at "vx"
    refine lc_rng1 (j := 14) (fun Q q => by walk_at "vx"; exact q) (by omega) (by omega) (fun k => .str ("n" ++ Str.ofString (toString (k : Int)))) (fun k hk => ?_) ?_
    · walk_at "vx"
      have l2 := PyProof.Rows.int_text_len_1921 (i := (k : Int)) (log_lt (by omega))
      have l3 : ("n" : Str).length = 1 := by decide +kernel
      exact ⟨log_lt (by omega), by omega⟩
    refine sq_i ?_
    walk_at "vx"
    refine ⟨by decide, by decide, by decide, by decide +kernel, by decide, ?_⟩
    refine sq_i ?_
    walk_at "vx"
    refine lc_rng1 (j := 14) (fun Q q => by walk_at "vx"; exact q) (by omega) (by omega) (fun k => .int ((k : Int) - 1)) (fun k hk => by walk_at "vx") ?_
    walk_at "vx"
    refine lc_rng1 (j := 13) (fun Q q => by walk_at "vx"; exact q) (by omega) (by omega) (fun k => .int ((k : Int) + 1)) (fun k hk => by walk_at "vx") ?_
    walk_at "vx"
    refine ⟨by decide +kernel, by decide, 4, rfl, _, rfl, q { P with nm := (List.range 14).map fun k : Nat => ("n" : Str) ++ Str.ofString (toString (k : Int)), ks := List.replicate 13 ("one" : Str) ++ [("leaf" : Str)], es := (List.range 14).map fun k : Nat => (k : Int) - 1, ss := ((List.range 13).map fun k : Nat => (k : Int) + 1) ++ [-1] } ?_ fun z => ?_⟩
    · have f1 := f.up (Nat.le_succ n)
      refine { f1 with ks := (by show (List.replicate 13 ("one" : Str) ++ [("leaf" : Str)]).length ≤ _; rw [List.length_append, List.length_replicate]; show 13 + 1 ≤ _; omega), es := (by show ((List.range 14).map _).length ≤ _; rw [List.length_map, List.length_range]; omega), ss := (by show (((List.range 13).map fun k : Nat => (k : Int) + 1) ++ [-1]).length ≤ _; rw [List.length_append, List.length_map, List.length_range]; show 13 + 1 ≤ _; omega), nl := (by show ((List.range 14).map _).length ≤ _; rw [List.length_map, List.length_range]; omega), nm := fun s m => ?_ }
      obtain ⟨k, hk, rfl⟩ := List.mem_map.mp m
      have := List.mem_range.mp hk
      have l1 := len_app "n" (Str.ofString (toString (k : Int)))
      have l3 : ("n" : Str).length = 1 := by decide +kernel
      have l2 := fig2_len k (by omega)
      rw [l1, l3]; omega
    · have h13 : (aboveM ((List.range 14).map fun k : Nat => (k : Int) - 1) ((13 : Nat) : Int)).length ≤ 12 := z.1.2.2.2.deep 13 (by show 13 < ((List.range 14).map _).length; rw [List.length_map, List.length_range]; decide)
      exact absurd h13 (by decide +kernel)
-- needs: m_spoil
def sp_L_spoil_name : SpM := fun ds Q => ∃ P c n, ds = [.lst true (pgL P), .int c] ∧ fS P n ∧ n ≤ 10 ∧ 1 ≤ P.nm.length ∧ ∀ nm', nm'.length = P.nm.length → fS { P with nm := nm' } (n + 1) → ¬ lkM { P with nm := nm' } → Q .non [.lst true (pgL { P with nm := nm' }), .int c]
theorem len_L_spoil_name : ∀ ds Q, sp_L_spoil_name ds Q → ds.length = 2 := by rintro _ _ ⟨_, _, _, rfl, _⟩; rfl
theorem u_L_spoil_name {P : PG} {c : Int} {n : Nat} {Q : D → List D → Prop} (h : fS P n) (hn : n ≤ 10) (h1 : 1 ≤ P.nm.length) (q : ∀ nm', nm'.length = P.nm.length → fS { P with nm := nm' } (n + 1) → ¬ lkM { P with nm := nm' } → Q .non [.lst true (pgL { P with nm := nm' }), .int c]) : sp_L_spoil_name [.lst true (pgL P), .int c] Q := ⟨P, c, n, rfl, h, hn, h1, q⟩
theorem d_L_spoil_name : ∀ ds Q, sp_L_spoil_name ds Q → w_L_spoil_name sp_L_bad_name { nx := fun env => ∃ ds', backD [0] env 0 ds = some ds' ∧ Q .non ds', rt := fun d env => ∃ ds', backD [0] env 0 ds = some ds' ∧ Q d ds' } (env0 4 ds) := by
  rintro _ Q ⟨P, c, n, rfl, f, hn, one, q⟩
  have fn := f.nl
  unfold w_L_spoil_name pgL
  refine sq_i ?_
  walk_at "vx"
  refine sq_i ?_
  walk_at "vx"
  refine ⟨by omega, ?_⟩
  have a0 := Int.emod_nonneg (c / 2) (show (P.nm.length : Int) ≠ 0 by omega)
  have a1 := Int.emod_lt_of_pos (c / 2) (show (0 : Int) < P.nm.length by omega)
  generalize hat : c / 2 % (P.nm.length : Int) = at_ at a0 a1 ⊢
  obtain ⟨atn, rfl⟩ : ∃ k : Nat, at_ = (k : Int) := ⟨at_.toNat, by omega⟩
  refine sq_i ?_
  walk_at "vx"
  have hm : P.nm.getD atn "" ∈ P.nm := getD_mem (by omega)
  have hl := f.nm _ hm
  refine ix_map (f := D.str) (xs := P.nm) "" a0 a1 ?_
  rw [Int.toNat_natCast]
  generalize P.nm.getD atn "" = old at hm hl ⊢
  refine u_L_bad_name (by omega) ?_
  have hb := badF_bad (c / 100) old
  have hbl := badF_len (c / 100) old
  generalize badF (c / 100) old = new at hb hbl ⊢
  refine ⟨.inl rfl, _, ixN_nat (by omega), ?_⟩
  rw [len_set_map]
  have fset : ∀ (k : Nat) (s : Str), s.length ≤ 100 + 40 * (n + 1) → fS { P with nm := P.nm.set k s } (n + 1) := fun k s hs => by
    have f1 := f.up (Nat.le_succ n)
    refine { f1 with nl := (by have := f1.nl; show (P.nm.set k s).length ≤ _; rw [List.length_set]; exact this), nm := fun x m => ?_ }
    rcases List.mem_or_eq_of_mem_set m with m | e
    · have := f.nm x m; omega
    · rw [e]; exact hs
  have fin : ∃ ds', backD [0] [some (.lst true [.lst true (P.bx.map bxP), .lst true ((P.nm.set atn new).map .str), .lst true (P.ks.map .str), lI true P.es, lI true P.ss, .lst true (P.ins.map gdsD), .lst true (P.outs.map gdsD), .lst true (P.ways.map gwD)]), some (.int c), some (.int P.nm.length), some (.int (atn : Int))] 0 [.lst true [.lst true (P.bx.map bxP), .lst true (P.nm.map .str), .lst true (P.ks.map .str), lI true P.es, lI true P.ss, .lst true (P.ins.map gdsD), .lst true (P.outs.map gdsD), .lst true (P.ways.map gwD)], .int c] = some ds' ∧ Q .non ds' := by
    refine ⟨_, rfl, q (P.nm.set atn new) List.length_set (fset _ _ (by omega)) fun z => ?_⟩
    have := z.1 new (by show new ∈ P.nm.set atn new; exact List.mem_iff_getElem.mpr ⟨atn, by rw [List.length_set]; omega, List.getElem_set_self _⟩)
    rw [hb] at this; cases this
  walk_at "vx"
  refine ⟨fun _ => ⟨fun h1 => ?_, fun _ => fin⟩, fun _ => fin⟩
  have g0 := Int.emod_nonneg (c / 100) (show ((P.nm.length : Int) - 1) ≠ 0 by omega)
  have g1 := Int.emod_lt_of_pos (c / 100) (show (0 : Int) < (P.nm.length : Int) - 1 by omega)
  generalize c / 100 % ((P.nm.length : Int) - 1) = g at g0 g1 ⊢
  have j0 := Int.emod_nonneg ((atn : Int) + 1 + g) (show (P.nm.length : Int) ≠ 0 by omega)
  have j1 := Int.emod_lt_of_pos ((atn : Int) + 1 + g) (show (0 : Int) < P.nm.length by omega)
  have jne : ((atn : Int) + 1 + g) % (P.nm.length : Int) ≠ atn := fun e => by
    have h := Int.emod_add_mul_ediv ((atn : Int) + 1 + g) P.nm.length
    rw [e] at h
    have h2 : (P.nm.length : Int) * (((atn : Int) + 1 + g) / P.nm.length) = 1 + g := by omega
    generalize ((atn : Int) + 1 + g) / (P.nm.length : Int) = k at h2
    have : k ≤ 0 ∨ 1 ≤ k := by omega
    rcases this with hk | hk
    · have := Int.mul_le_mul_of_nonneg_left hk (show (0 : Int) ≤ P.nm.length by omega)
      omega
    · have := Int.mul_le_mul_of_nonneg_left hk (show (0 : Int) ≤ P.nm.length by omega)
      omega
  generalize ((atn : Int) + 1 + g) % (P.nm.length : Int) = jj at j0 j1 jne ⊢
  obtain ⟨jn, rfl⟩ : ∃ k : Nat, jj = (k : Int) := ⟨jj.toNat, by omega⟩
  have ls : (P.nm.set atn new).length = P.nm.length := List.length_set
  refine ⟨by omega, by omega, ix_map (f := D.str) (xs := P.nm.set atn new) "" j0 (by rw [ls]; exact j1) ⟨rfl, _, ixN_nat (by simp only [List.length_map, ls]; omega), ?_⟩⟩
  rw [len_set_map, List.set_set, Int.toNat_natCast]
  have hx : (P.nm.set atn new).getD jn "" = P.nm[jn]'(by omega) := by
    rw [List.getD_eq_getElem?_getD, List.getElem?_set_ne (by omega), List.getElem?_eq_getElem (by omega)]; rfl
  rw [hx]
  refine ⟨_, rfl, q (P.nm.set atn (P.nm[jn]'(by omega))) List.length_set (fset _ _ (by have := f.nm _ (List.getElem_mem (show jn < P.nm.length by omega)); omega)) fun z => ?_⟩
  refine not_nodup (i := atn) (j := jn) (by rw [List.length_set]; omega) (by rw [List.length_set]; omega) (by omega) ?_ z.2
  rw [List.getElem_set_self, List.getElem_set_ne (by omega)]
-- needs: m_spoil
def sp_L_spoil_box : SpM := fun ds Q => ∃ P c n, ds = [.lst true (pgL P), .int c] ∧ fS P n ∧ n ≤ 10 ∧ ∀ bx', fS { P with bx := bx' } (n + 2) → ¬ lkX { P with bx := bx' } → Q .non [.lst true (pgL { P with bx := bx' }), .int c]
theorem len_L_spoil_box : ∀ ds Q, sp_L_spoil_box ds Q → ds.length = 2 := by rintro _ _ ⟨_, _, _, rfl, _⟩; rfl
theorem u_L_spoil_box {P : PG} {c : Int} {n : Nat} {Q : D → List D → Prop} (h : fS P n) (hn : n ≤ 10) (q : ∀ bx', fS { P with bx := bx' } (n + 2) → ¬ lkX { P with bx := bx' } → Q .non [.lst true (pgL { P with bx := bx' }), .int c]) : sp_L_spoil_box [.lst true (pgL P), .int c] Q := ⟨P, c, n, rfl, h, hn, q⟩
theorem d_L_spoil_box : ∀ ds Q, sp_L_spoil_box ds Q → w_L_spoil_box sp_L_bad_name { nx := fun env => ∃ ds', backD [0] env 0 ds = some ds' ∧ Q .non ds', rt := fun d env => ∃ ds', backD [0] env 0 ds = some ds' ∧ Q d ds' } (env0 6 ds) := by
  rintro _ Q ⟨P, c, n, rfl, f, hn, q⟩
  have fn := f.bl
  unfold w_L_spoil_box pgL
  walk_at "vx"
  refine ⟨by decide, ⟨_, rfl⟩, fun p => ?_⟩
  refine sq_cut (fun env => ∃ bx : List (Str × Int), bx ≠ [] ∧ bx.length ≤ 100 + (n + 1) ∧ (∀ b ∈ bx, b.1.length ≤ 100 + 40 * (n + 1) ∧ PyData.strOk b.1 = true) ∧ env = [some (.lst true [.at p none, .lst true (P.nm.map .str), .lst true (P.ks.map .str), lI true P.es, lI true P.ss, .lst true (P.ins.map gdsD), .lst true (P.outs.map gdsD), .lst true (P.ways.map gwD)]), some (.int c), some (.lst true (bx.map bxP)), none, none, none]) ?_ ?_
  · have hbx : ∀ b ∈ P.bx, b.1.length ≤ 100 + 40 * (n + 1) ∧ PyData.strOk b.1 = true := fun b m => by have := f.bx b m; exact ⟨by omega, f.be b m⟩
    generalize hP : P.bx = bx at fn hbx ⊢
    walk_at "vx"
    rw [eqOk_bxs fun b m => (hbx b m).2, deq_nil]
    refine ⟨⟨rfl, by decide +kernel⟩, fun h => ⟨by omega, [("w0", 5)], by simp, ?_, ?_, ?_⟩, fun h => ⟨bx, of_decide_eq_false h, by omega, hbx, rfl⟩⟩
    · show 1 ≤ _; omega
    · intro b m
      rw [List.mem_singleton.mp m]
      have : ("w0" : Str).length = 2 := by decide +kernel
      exact ⟨by show ("w0" : Str).length ≤ _; omega, by decide +kernel⟩
    · rw [of_decide_eq_true h]; rfl
  rintro _ ⟨bx, hne, hl, hb, rfl⟩
  have lpos : 1 ≤ bx.length := Nat.pos_of_ne_zero fun e => hne (List.eq_nil_of_length_eq_zero e)
  have fin : ∀ bx' : List (Str × Int), bx'.length ≤ 100 + (n + 2) → (∀ b ∈ bx', b.1.length ≤ 100 + 40 * (n + 2) ∧ PyData.strOk b.1 = true) → ¬ ((∀ b ∈ bx', isNameM b.1 = true ∧ nbB b.2 = true) ∧ (bx'.map Prod.fst).Nodup) → Q .non [.lst true [.lst true (bx'.map bxP), .lst true (P.nm.map .str), .lst true (P.ks.map .str), lI true P.es, lI true P.ss, .lst true (P.ins.map gdsD), .lst true (P.outs.map gdsD), .lst true (P.ways.map gwD)], .int c] := fun bx' h1 h2 h3 => by
    have f2 := f.up (Nat.le_add_right n 2)
    exact q bx' { f2 with bl := h1, bx := fun b m => (h2 b m).1, be := fun b m => (h2 b m).2 } h3
  refine sq_i ?_
  walk_at "vx"
  refine ⟨by omega, ?_⟩
  have a0 := Int.emod_nonneg (c / 4) (show (bx.length : Int) ≠ 0 by omega)
  have a1 := Int.emod_lt_of_pos (c / 4) (show (0 : Int) < bx.length by omega)
  generalize hat : c / 4 % (bx.length : Int) = at_ at a0 a1 ⊢
  obtain ⟨atn, rfl⟩ : ∃ k : Nat, at_ = (k : Int) := ⟨at_.toNat, by omega⟩
  have hat2 : atn < bx.length := by omega
  refine sq_i ?_
  walk_at "vx"
  have hm : bx.getD atn ("", 0) ∈ bx := getD_mem hat2
  have hbo := hb _ hm
  refine ix_map (f := bxP) (xs := bx) ("", 0) a0 a1 ?_
  rw [Int.toNat_natCast]
  generalize hold : bx.getD atn ("", 0) = old at hm hbo ⊢
  rw [show bxP old = .tup [.str old.1, .int old.2] from rfl]
  walk_at "vx"
  refine sq_i ?_
  walk_at "vx"
  have w0 := Int.emod_nonneg c (show (4 : Int) ≠ 0 by decide)
  have w1 := Int.emod_lt_of_pos c (show (0 : Int) < 4 by decide)
  generalize hw : c % 4 = way at w0 w1 ⊢
  have hold2 : old = bx[atn] := by rw [← hold, List.getD_eq_getElem?_getD, List.getElem?_eq_getElem hat2]; rfl
  have setf : ∀ (nw : Str × Int), nw.1.length ≤ 100 + 40 * (n + 2) → PyData.strOk nw.1 = true → ¬ (isNameM nw.1 = true ∧ nbB nw.2 = true) → Q .non [.lst true [.lst true ((bx.map bxP).set atn (bxP nw)), .lst true (P.nm.map .str), .lst true (P.ks.map .str), lI true P.es, lI true P.ss, .lst true (P.ins.map gdsD), .lst true (P.outs.map gdsD), .lst true (P.ways.map gwD)], .int c] := fun nw h1 h2 h3 => by
    rw [len_set_map]
    refine fin _ (by rw [List.length_set]; omega) (fun b m => ?_) fun z => h3 (z.1 nw (List.mem_iff_getElem.mpr ⟨atn, by rw [List.length_set]; omega, List.getElem_set_self _⟩))
    rcases List.mem_or_eq_of_mem_set m with m | e
    · have := hb b m
      exact ⟨by omega, this.2⟩
    · rw [e]; exact ⟨h1, h2⟩
  have nb0 : ∀ x : Int, (10 ^ 30 ≤ x ∨ x ≤ -(10 ^ 30)) → nbB x = false := fun x hx => by
    cases e : nbB x with
    | false => rfl
    | true =>
      have := (nbB_iff x).mp e
      unfold okNb at this
      omega
  have c0 := Int.emod_nonneg (c / 40) (show (5 : Int) ≠ 0 by decide)
  refine ⟨fun _ => ?_, fun _ => ⟨fun _ => ?_, fun _ => ⟨fun _ => ?_, fun _ => ?_⟩⟩⟩
  · refine u_L_bad_name (by omega) ?_
    have hbb := badF_bad (c / 40) old.1
    have hbl := badF_len (c / 40) old.1
    have hbs := badF_str (c := c / 40) hbo.2
    generalize badF (c / 40) old.1 = new at hbb hbl hbs ⊢
    refine ix_map (f := bxP) (xs := bx) ("", 0) a0 a1 ?_
    rw [Int.toNat_natCast, hold, show bxP old = .tup [.str old.1, .int old.2] from rfl]
    walk_at "vx"
    exact ⟨_, ixN_nat hat2, _, _, rfl, rfl, rfl, _, rfl, setf (new, old.2) (by show new.length ≤ _; omega) hbs fun z => (by have := z.1; rw [hbb] at this; cases this)⟩
  · refine ⟨by omega, by omega, by omega, _, _, rfl, rfl, rfl, _, rfl, ?_⟩
    have e1 : (bx.map bxP).take ((atn : Int)).toNat ++ [D.tup [.str old.1, .int (c / 40 % 7)]] ++ (bx.map bxP).drop ((atn : Int)).toNat = (bx.take atn ++ [(old.1, c / 40 % 7)] ++ bx.drop atn).map bxP := by
      rw [Int.toNat_natCast, List.map_append, List.map_append, List.map_take, List.map_drop]; rfl
    rw [e1]
    refine fin _ ?_ (fun b m => ?_) fun z => ?_
    · simp only [List.length_append, List.length_take, List.length_drop, List.length_singleton]; omega
    · simp only [List.mem_append, List.mem_singleton] at m
      rcases m with (m | m) | m
      · have := hb b (List.mem_of_mem_take m); exact ⟨by omega, this.2⟩
      · rw [m]; exact ⟨by show old.1.length ≤ _; omega, hbo.2⟩
      · have := hb b (List.mem_of_mem_drop m); exact ⟨by omega, this.2⟩
    · have hd := z.2
      rw [List.append_assoc, List.map_append] at hd
      have hd := (List.nodup_append.mp hd).2.1
      rw [List.map_append, List.map_cons, List.map_nil, List.singleton_append, List.nodup_cons] at hd
      refine hd.1 (List.mem_map.mpr ⟨old, ?_, rfl⟩)
      rw [hold2]
      exact List.mem_iff_getElem.mpr ⟨0, by rw [List.length_drop]; omega, by rw [List.getElem_drop]; rfl⟩
  · exact ⟨_, ixN_nat hat2, _, _, rfl, rfl, rfl, _, rfl, setf (old.1, 10 ^ 30 + c / 40 % 5) (by show old.1.length ≤ _; omega) hbo.2 fun z => (by have := z.2; rw [nb0 _ (.inl (by omega))] at this; cases this)⟩
  · exact ⟨_, ixN_nat hat2, _, _, rfl, rfl, rfl, _, rfl, setf (old.1, 0 - 10 ^ 30 - c / 40 % 5) (by show old.1.length ≤ _; omega) hbo.2 fun z => (by have := z.2; rw [nb0 _ (.inr (by omega))] at this; cases this)⟩
-- needs: m_spoil
def badT (c many : Int) : Int × Int :=
  let m := ([0, 10 ^ 30, 0 - 10 ^ 30, 10 ^ 31] : List Int).getD (c / 4 % 4).toNat 0
  (if m = 0 then ([many, -2, many + 3] : List Int).getD (c / 16 % 3).toNat 0 else c / 16 % (many + 1) - 1, m)
theorem badT_bad {c many : Int} (h : 0 ≤ many) : rtB many (badT c many) = false := by
  unfold badT rtB
  have a0 := Int.emod_nonneg (c / 4) (show (4 : Int) ≠ 0 by decide)
  have a1 := Int.emod_lt_of_pos (c / 4) (show (0 : Int) < 4 by decide)
  have b0 := Int.emod_nonneg (c / 16) (show (3 : Int) ≠ 0 by decide)
  have b1 := Int.emod_lt_of_pos (c / 16) (show (0 : Int) < 3 by decide)
  generalize c / 4 % 4 = a at a0 a1 ⊢
  generalize c / 16 % 3 = b at b0 b1 ⊢
  generalize c / 16 % (many + 1) - 1 = d
  have z1 : nbB (10 ^ 30) = false ∧ nbB (0 - 10 ^ 30) = false ∧ nbB (10 ^ 31) = false := by decide +kernel
  rcases (show a = 0 ∨ a = 1 ∨ a = 2 ∨ a = 3 by omega) with rfl | rfl | rfl | rfl
  · rcases (show b = 0 ∨ b = 1 ∨ b = 2 by omega) with rfl | rfl | rfl
    · show (decide (-1 ≤ many) && (decide (many < many) && nbB 0)) = false
      rw [decide_eq_false (show ¬ many < many by omega)]; simp
    · show (decide (-1 ≤ (-2 : Int)) && _) = false
      rfl
    · show (decide (-1 ≤ many + 3) && (decide (many + 3 < many) && nbB 0)) = false
      rw [decide_eq_false (show ¬ many + 3 < many by omega)]; simp
  · show (decide (-1 ≤ _) && (decide (_ < many) && nbB (10 ^ 30))) = false
    rw [z1.1]; simp
  · show (decide (-1 ≤ _) && (decide (_ < many) && nbB (0 - 10 ^ 30))) = false
    rw [z1.2.1]; simp
  · show (decide (-1 ≤ _) && (decide (_ < many) && nbB (10 ^ 31))) = false
    rw [z1.2.2]; simp
def sp_L_bad_term : SpD := fun ds Q => ∃ (c many : Int), ds = [.int c, .int many] ∧ 0 ≤ many ∧ many ≤ 1000 ∧ Q (tD (badT c many).1 (badT c many).2)
theorem len_L_bad_term : ∀ ds Q, sp_L_bad_term ds Q → ds.length = 2 := by rintro _ _ ⟨_, _, rfl, _⟩; rfl
theorem u_L_bad_term {c many : Int} {Q : D → Prop} (h : 0 ≤ many) (h2 : many ≤ 1000) (q : Q (tD (badT c many).1 (badT c many).2)) : sp_L_bad_term [.int c, .int many] Q := ⟨c, many, rfl, h, h2, q⟩
theorem d_L_bad_term : ∀ ds Q, sp_L_bad_term ds Q → w_L_bad_term { nx := fun _ => Q .non, rt := fun d _ => Q d } (env0 4 ds) := by
  rintro _ Q ⟨c, many, rfl, h0, h2, q⟩
  have a0 := Int.emod_nonneg (c / 4) (show (4 : Int) ≠ 0 by decide)
  have a1 := Int.emod_lt_of_pos (c / 4) (show (0 : Int) < 4 by decide)
  have b0 := Int.emod_nonneg (c / 16) (show (3 : Int) ≠ 0 by decide)
  have b1 := Int.emod_lt_of_pos (c / 16) (show (0 : Int) < 3 by decide)
  unfold badT at q
  unfold w_L_bad_term
  refine sq_i ?_
  walk_at "vx"
  refine ix_map (f := D.int) (xs := [0, 10 ^ 30, 0 - 10 ^ 30, 10 ^ 31]) 0 a0 (by show c / 4 % 4 < 4; exact a1) ⟨rfl, ?_⟩
  generalize ([0, 10 ^ 30, 0 - 10 ^ 30, 10 ^ 31] : List Int).getD (c / 4 % 4).toNat 0 = m at q ⊢
  refine sq_i ?_
  walk_at "vx"
  refine ix_map (f := D.int) (xs := [many, -2, many + 3]) 0 b0 (by show c / 16 % 3 < 3; exact b1) ⟨rfl, ?_⟩
  generalize ([many, -2, many + 3] : List Int).getD (c / 16 % 3).toNat 0 = b at q ⊢
  refine sq_cut (fun env => env = [some (.int c), some (.int many), some (.int m), some (.int (if m = 0 then b else c / 16 % (many + 1) - 1))]) ?_ ?_
  · walk_at "vx"
    refine ⟨fun h => ?_, fun h => ?_⟩
    · rw [if_neg h]
      exact ⟨by omega, rfl⟩
    · rw [if_pos h]
  · rintro _ rfl
    walk_at "vx"
    exact q
-- needs: m_spoil L_bad_term L_bad_name
def sp_L_bad_deed : SpD := fun ds Q => ∃ (c many : Int), ds = [.int c, .int many] ∧ 0 ≤ many ∧ many ≤ 1000 ∧ ∀ d, rdB many d = false → fGD d → sGD d → Q (gdD d)
theorem len_L_bad_deed : ∀ ds Q, sp_L_bad_deed ds Q → ds.length = 2 := by rintro _ _ ⟨_, _, rfl, _⟩; rfl
theorem u_L_bad_deed {c many : Int} {Q : D → Prop} (h : 0 ≤ many) (h2 : many ≤ 1000) (q : ∀ d, rdB many d = false → fGD d → sGD d → Q (gdD d)) : sp_L_bad_deed [.int c, .int many] Q := ⟨c, many, rfl, h, h2, q⟩
theorem d_L_bad_deed : ∀ ds Q, sp_L_bad_deed ds Q → w_L_bad_deed sp_L_bad_term sp_L_bad_name { nx := fun _ => Q .non, rt := fun d _ => Q d } (env0 3 ds) := by
  rintro _ Q ⟨c, many, rfl, h0, h2, q⟩
  unfold w_L_bad_deed
  refine sq_i ?_
  walk_at "vx"
  have w0 := Int.emod_nonneg c (show (6 : Int) ≠ 0 by decide)
  have w1 := Int.emod_lt_of_pos c (show (0 : Int) < 6 by decide)
  generalize c % 6 = way at w0 w1 ⊢
  refine sq_i ?_
  walk_at "vx"
  generalize c / 6 = c at *
  have g2 : ("go" : Str).length = 2 := by decide +kernel
  have gw : ("word" : Str).length = 4 := by decide +kernel
  have g3 : PyData.strOk "go" = true := by decide +kernel
  have g4 : PyData.strOk "word" = true := by decide +kernel
  have g5 : PyData.strOk "say" = true := by decide +kernel
  have g6 : ("say" : Str) ≠ "put" ∧ ("say" : Str) ≠ "call" := by decide +kernel
  have bl := badF_len c "go"
  have bb := badF_bad c "go"
  have bs := badF_str (c := c) g3
  refine sq_i ?_
  walk_at "vx"
  refine ⟨fun h => ?_, fun h5 => ?_⟩
  · have m0 := Int.emod_nonneg c (show (5 : Int) ≠ 0 by decide)
    have m1 := Int.emod_lt_of_pos c (show (0 : Int) < 5 by decide)
    refine ix_map (f := D.str) (xs := ["tell", "", "Say", "out", "puts"]) "" m0 (by show c % 5 < 5; exact m1) ⟨rfl, ?_⟩
    have hm : (["tell", "", "Say", "out", "puts"] : List Str).getD (c % 5).toNat "" ∈ (["tell", "", "Say", "out", "puts"] : List Str) := getD_mem (by show (c % 5).toNat < 5; omega)
    generalize (["tell", "", "Say", "out", "puts"] : List Str).getD (c % 5).toNat "" = k at hm ⊢
    have hk : ∀ k ∈ (["tell", "", "Say", "out", "puts"] : List Str), k ≠ "say" ∧ k ≠ "put" ∧ k ≠ "call" ∧ PyData.strOk k = true := by decide +kernel
    obtain ⟨k1, k2, k3, k4⟩ := hk k hm
    refine q (.three k "word" (-1, 0)) ?_ ⟨k2, k3, by omega⟩ ⟨k4, g4⟩
    show (decide (k = "say") && _) = false
    rw [decide_eq_false k1]; rfl
  refine sq_i ?_
  walk_at "vx"
  refine ⟨fun h => ?_, fun h0' => ?_⟩
  · have m0 := Int.emod_nonneg c (show (3 : Int) ≠ 0 by decide)
    have m1 := Int.emod_lt_of_pos c (show (0 : Int) < 3 by decide)
    refine ix_map (f := D.int) (xs := [many, -1, many + 2]) 0 m0 (by show c % 3 < 3; exact m1) ⟨rfl, ?_⟩
    refine q (.put (([many, -1, many + 2] : List Int).getD (c % 3).toNat 0) (-1, 4)) ?_ trivial trivial
    show (decide (0 ≤ _) && (decide (_ < many) && _)) = false
    generalize c % 3 = a at m0 m1 ⊢
    rcases (show a = 0 ∨ a = 1 ∨ a = 2 by omega) with rfl | rfl | rfl
    · rw [decide_eq_false (show ¬ ([many, -1, many + 2] : List Int).getD (0 : Int).toNat 0 < many from fun (z : many < many) => by omega)]; simp
    · rw [decide_eq_false (show ¬ 0 ≤ ([many, -1, many + 2] : List Int).getD (1 : Int).toNat 0 from fun (z : (0 : Int) ≤ -1) => by omega)]; rfl
    · rw [decide_eq_false (show ¬ ([many, -1, many + 2] : List Int).getD (2 : Int).toNat 0 < many from fun (z : many + 2 < many) => by omega)]; simp
  have rest : ∀ (b : Int) (t : Int × Int), rtB many t = false → rdB many (.put b t) = false := fun b t h => by
    show (decide (0 ≤ b) && (decide (b < many) && rtB many t)) = false
    rw [h]; simp
  refine sq_cut (fun env => env = [some (.int c), some (.int many), some (.int way)]) ?_ ?_
  · walk_at "vx"
    refine fun h hp => ⟨by omega, ⟨by omega, by omega⟩, u_L_bad_term h0 h2 ?_⟩
    exact q (.put (c % many) (badT (c / many) many)) (rest _ _ (badT_bad h0)) trivial trivial
  rintro _ rfl
  refine sq_i ?_
  walk_at "vx"
  refine ⟨fun h => u_L_bad_name (by omega) (q (.call (badF c "go")) bb (by show (badF c "go").length ≤ _; omega) bs), fun hn2 => ?_⟩
  refine sq_i ?_
  walk_at "vx"
  refine ⟨fun h => u_L_bad_name (by omega) (q (.three "say" (badF c "go") (-1, 0)) ?_ ⟨g6.1, g6.2, by omega⟩ ⟨g5, bs⟩), fun hn3 => ?_⟩
  · show (decide (("say" : Str) = "say") && (isNameM (badF c "go") && _)) = false
    rw [bb]; simp
  refine u_L_bad_term h0 h2 (q (.three "say" "word" (badT c many)) ?_ ⟨g6.1, g6.2, by omega⟩ ⟨g5, g4⟩)
  show (decide (("say" : Str) = "say") && (isNameM "word" && rtB many (badT c many))) = false
  rw [badT_bad h0]; simp
-- needs: m_spoil
def sp_L_put_in : SpD := fun ds Q => ∃ (xs : List D) (c : Int) (t : D), ds = [.tup xs, .int c, t] ∧ noOwnL xs = true ∧ noOwn t = true ∧ xs.length ≤ 10000 ∧ ∀ k : Nat, k ≤ xs.length → Q (.tup (xs.take k ++ [t] ++ xs.drop k))
theorem len_L_put_in : ∀ ds Q, sp_L_put_in ds Q → ds.length = 3 := by rintro _ _ ⟨_, _, _, rfl, _⟩; rfl
theorem u_L_put_in {xs : List D} {c : Int} {t : D} {Q : D → Prop} (h1 : noOwnL xs = true) (h2 : noOwn t = true) (h3 : xs.length ≤ 10000) (q : ∀ k : Nat, k ≤ xs.length → Q (.tup (xs.take k ++ [t] ++ xs.drop k))) : sp_L_put_in [.tup xs, .int c, t] Q := ⟨xs, c, t, rfl, h1, h2, h3, q⟩
theorem d_L_put_in : ∀ ds Q, sp_L_put_in ds Q → w_L_put_in { nx := fun _ => Q .non, rt := fun d _ => Q d } (env0 3 ds) := by
  rintro _ Q ⟨xs, c, t, rfl, h1, h2, h3, q⟩
  unfold w_L_put_in
  refine sq_i ?_
  walk_at "vx"
  refine ⟨h1, ?_⟩
  refine sq_i ?_
  walk_at "vx"
  have a0 := Int.emod_nonneg c (show (xs.length : Int) + 1 ≠ 0 by omega)
  have a1 := Int.emod_lt_of_pos c (show (0 : Int) < (xs.length : Int) + 1 by omega)
  refine ⟨by omega, by omega, a0, by omega, h2, ?_, q _ (by omega)⟩
  generalize (c % ((xs.length : Int) + 1)).toNat = k
  rw [noOwnL_all, List.all_eq_true] at *
  intro x m
  simp only [List.mem_append, List.mem_singleton] at m
  rcases m with (m | m) | m
  · exact h1 x (List.mem_of_mem_take m)
  · rw [m]; exact h2
  · exact h1 x (List.mem_of_mem_drop m)
-- needs: m_spoil L_bad_deed L_put_in m_atEnd
def sp_L_spoil_deed : SpM := fun ds Q => ∃ P c n, ds = [.lst true (pgL P), .int c] ∧ fS P n ∧ n ≤ 10 ∧ P.ins.length = P.nm.length ∧ P.outs.length = P.nm.length ∧ 1 ≤ P.nm.length ∧ ∀ il ol wl, fS { P with ins := il, outs := ol, ways := wl } (n + 2) → ¬ lkD { P with ins := il, outs := ol, ways := wl } → Q .non [.lst true (pgL { P with ins := il, outs := ol, ways := wl }), .int c]
theorem len_L_spoil_deed : ∀ ds Q, sp_L_spoil_deed ds Q → ds.length = 2 := by rintro _ _ ⟨_, _, _, rfl, _⟩; rfl
theorem u_L_spoil_deed {P : PG} {c : Int} {n : Nat} {Q : D → List D → Prop} (h : fS P n) (hn : n ≤ 10) (h1 : P.ins.length = P.nm.length) (h2 : P.outs.length = P.nm.length) (h3 : 1 ≤ P.nm.length) (q : ∀ il ol wl, fS { P with ins := il, outs := ol, ways := wl } (n + 2) → ¬ lkD { P with ins := il, outs := ol, ways := wl } → Q .non [.lst true (pgL { P with ins := il, outs := ol, ways := wl }), .int c]) : sp_L_spoil_deed [.lst true (pgL P), .int c] Q := ⟨P, c, n, rfl, h, hn, h1, h2, h3, q⟩
theorem d_L_spoil_deed : ∀ ds Q, sp_L_spoil_deed ds Q → w_L_spoil_deed sp_L_bad_deed sp_L_put_in { nx := fun env => ∃ ds', backD [0] env 0 ds = some ds' ∧ Q .non ds', rt := fun d env => ∃ ds', backD [0] env 0 ds = some ds' ∧ Q d ds' } (env0 6 ds) := by
  rintro _ Q ⟨P, c, n, rfl, f, hn, e1, e2, one, q⟩
  have fb := f.bl
  have fn := f.nl
  unfold w_L_spoil_deed pgL
  refine sq_i ?_
  walk_at "vx"
  refine u_L_bad_deed (by omega) (by omega) fun d hd fd sd => ?_
  refine sq_i ?_
  walk_at "vx"
  have w0 := Int.emod_nonneg c (show (4 : Int) ≠ 0 by decide)
  have w1 := Int.emod_lt_of_pos c (show (0 : Int) < 4 by decide)
  generalize hw : c % 4 = way at w0 w1 ⊢
  refine sq_i ?_
  walk_at "vx"
  refine ⟨by omega, ?_⟩
  have a0 := Int.emod_nonneg (c / 4) (show (P.ins.length : Int) ≠ 0 by omega)
  have a1 := Int.emod_lt_of_pos (c / 4) (show (0 : Int) < P.ins.length by omega)
  generalize hat : c / 4 % (P.ins.length : Int) = at_ at a0 a1 ⊢
  obtain ⟨atn, rfl⟩ : ∃ k : Nat, at_ = (k : Int) := ⟨at_.toNat, by omega⟩
  have hat2 : atn < P.ins.length := by omega
  have put_row : ∀ (row : List GDeed) (k : Nat), D.tup ((row.map gdD).take k ++ [gdD d] ++ (row.map gdD).drop k) = gdsD (row.take k ++ [d] ++ row.drop k) := fun row k => by
    unfold gdsD
    rw [List.map_append, List.map_append, List.map_take, List.map_drop]; rfl
  have goR : ∀ il ol : List (List GDeed), il.length = P.ins.length → ol.length = P.outs.length → (∃ ds ∈ il ++ ol, d ∈ ds) → (∀ ds ∈ il ++ ol, ds ∈ P.ins ++ P.outs ∨ (ds.length ≤ 1000 + (n + 2) ∧ ∀ x ∈ ds, fGD x)) → Q .non [.lst true [.lst true (P.bx.map bxP), .lst true (P.nm.map .str), .lst true (P.ks.map .str), lI true P.es, lI true P.ss, .lst true (il.map gdsD), .lst true (ol.map gdsD), .lst true (P.ways.map gwD)], .int c] := fun il ol h1 h2 ⟨dr, hdr, hin⟩ h4 => by
    have f2 := f.up (Nat.le_add_right n 2)
    refine q il ol P.ways ?_ fun z => ?_
    · refine { f2 with il := (by show il.length ≤ _; rw [h1]; exact f2.il), ol := (by show ol.length ≤ _; rw [h2]; exact f2.ol), rl := fun ds m => ?_, ds := fun ds m => ?_ }
      · rcases h4 ds m with m | m
        · exact f2.rl ds m
        · exact m.1
      · rcases List.mem_append.mp m with m | m
        · rcases h4 ds m with m | m
          · exact f2.ds ds (List.mem_append_left _ m)
          · exact m.2
        · exact f2.ds ds (List.mem_append_right _ m)
    · have := z.2.2 dr (List.mem_append_left _ hdr) d hin
      rw [show rdB ((P.bx.length : Nat) : Int) d = false from hd] at this
      cases this
  refine ⟨fun h => ?_, fun h2' => ⟨fun h => ?_, fun h3' => ?_⟩⟩
  · rcases (show way = 0 ∨ way = 1 by omega) with rfl | rfl
    · refine ⟨_, rfl, ?_⟩
      refine ix_map (f := gdsD) (xs := P.ins) [] (by omega) (by omega) ?_
      rw [Int.toNat_natCast]
      have hm : P.ins.getD atn [] ∈ P.ins := getD_mem hat2
      have hrl := f.rl _ (List.mem_append_left _ hm)
      have hds := f.ds _ (List.mem_append_left _ (List.mem_append_left _ hm))
      generalize P.ins.getD atn [] = row at hm hrl hds ⊢
      rw [frz_id _ (noOwn_gds row), frz_id _ (noOwn_gdD d)]
      refine u_L_put_in (xs := row.map gdD) (noOwnL_map gdD noOwn_gdD row) (noOwn_gdD d) (by rw [List.length_map]; omega) fun k hk => ?_
      rw [put_row]
      refine ⟨.inl (alo_gds _), 5, rfl, _, rfl, _, rfl, _, ixN_nat (by rw [List.length_map]; omega), _, rfl, ?_⟩
      rw [len_set_map]
      exact goR (P.ins.set atn (row.take k ++ [d] ++ row.drop k)) P.outs (by rw [List.length_set]) rfl ⟨_, List.mem_append_left _ (List.mem_iff_getElem.mpr ⟨atn, by rw [List.length_set]; omega, List.getElem_set_self _⟩), by simp⟩ fun ds m => by
        rcases List.mem_append.mp m with m | m
        · rcases List.mem_or_eq_of_mem_set m with m | rfl
          · exact .inl (List.mem_append_left _ m)
          · exact .inr ⟨by simp only [List.length_append, List.length_take, List.length_drop, List.length_singleton]; omega, fun x mx => by
              simp only [List.mem_append, List.mem_singleton] at mx
              rcases mx with (mx | mx) | mx
              · exact hds x (List.mem_of_mem_take mx)
              · rw [mx]; exact fd
              · exact hds x (List.mem_of_mem_drop mx)⟩
        · exact .inl (List.mem_append_right _ m)
    · refine ⟨_, rfl, ?_⟩
      refine ix_map (f := gdsD) (xs := P.outs) [] (by omega) (by omega) ?_
      rw [Int.toNat_natCast]
      have hm : P.outs.getD atn [] ∈ P.outs := getD_mem (by omega)
      have hrl := f.rl _ (List.mem_append_right _ hm)
      have hds := f.ds _ (List.mem_append_left _ (List.mem_append_right _ hm))
      generalize P.outs.getD atn [] = row at hm hrl hds ⊢
      rw [frz_id _ (noOwn_gds row), frz_id _ (noOwn_gdD d)]
      refine u_L_put_in (xs := row.map gdD) (noOwnL_map gdD noOwn_gdD row) (noOwn_gdD d) (by rw [List.length_map]; omega) fun k hk => ?_
      rw [put_row]
      refine ⟨.inl (alo_gds _), 6, rfl, _, rfl, _, rfl, _, ixN_nat (by rw [List.length_map]; omega), _, rfl, ?_⟩
      rw [len_set_map]
      exact goR P.ins (P.outs.set atn (row.take k ++ [d] ++ row.drop k)) rfl (by rw [List.length_set]) ⟨_, List.mem_append_right _ (List.mem_iff_getElem.mpr ⟨atn, by rw [List.length_set]; omega, List.getElem_set_self _⟩), by simp⟩ fun ds m => by
        rcases List.mem_append.mp m with m | m
        · exact .inl (List.mem_append_left _ m)
        · rcases List.mem_or_eq_of_mem_set m with m | rfl
          · exact .inl (List.mem_append_right _ m)
          · exact .inr ⟨by simp only [List.length_append, List.length_take, List.length_drop, List.length_singleton]; omega, fun x mx => by
              simp only [List.mem_append, List.mem_singleton] at mx
              rcases mx with (mx | mx) | mx
              · exact hds x (List.mem_of_mem_take mx)
              · rw [mx]; exact fd
              · exact hds x (List.mem_of_mem_drop mx)⟩
  · have goI : ∀ il : List (List GDeed), il.length ≠ P.nm.length → il.length ≤ P.ins.length + 1 → (∀ ds ∈ il, ds ∈ P.ins ∨ ds = []) → Q .non [.lst true [.lst true (P.bx.map bxP), .lst true (P.nm.map .str), .lst true (P.ks.map .str), lI true P.es, lI true P.ss, .lst true (il.map gdsD), .lst true (P.outs.map gdsD), .lst true (P.ways.map gwD)], .int c] := fun il hl hl2 hm => by
      refine q il P.outs P.ways ?_ fun z => hl z.1
      have f2 := f.up (Nat.le_add_right n 2)
      have := f.il
      refine { f2 with il := (by show il.length ≤ _; omega), rl := fun ds m => ?_, ds := fun ds m => ?_ }
      · rcases List.mem_append.mp m with m | m
        · rcases hm ds m with m | rfl
          · exact f2.rl ds (List.mem_append_left _ m)
          · exact Nat.zero_le _
        · exact f2.rl ds (List.mem_append_right _ m)
      · rcases List.mem_append.mp m with m | m
        · rcases List.mem_append.mp m with m | m
          · rcases hm ds m with m | rfl
            · exact f2.ds ds (List.mem_append_left _ (List.mem_append_left _ m))
            · exact fun _ h => absurd h List.not_mem_nil
          · exact f2.ds ds (List.mem_append_left _ (List.mem_append_right _ m))
        · exact f2.ds ds (List.mem_append_right _ m)
    have goO : ∀ ol : List (List GDeed), ol.length ≠ P.nm.length → ol.length ≤ P.outs.length + 1 → (∀ ds ∈ ol, ds ∈ P.outs ∨ ds = []) → Q .non [.lst true [.lst true (P.bx.map bxP), .lst true (P.nm.map .str), .lst true (P.ks.map .str), lI true P.es, lI true P.ss, .lst true (P.ins.map gdsD), .lst true (ol.map gdsD), .lst true (P.ways.map gwD)], .int c] := fun ol hl hl2 hm => by
      refine q P.ins ol P.ways ?_ fun z => hl z.2.1
      have f2 := f.up (Nat.le_add_right n 2)
      have := f.ol
      refine { f2 with ol := (by show ol.length ≤ _; omega), rl := fun ds m => ?_, ds := fun ds m => ?_ }
      · rcases List.mem_append.mp m with m | m
        · exact f2.rl ds (List.mem_append_left _ m)
        · rcases hm ds m with m | rfl
          · exact f2.rl ds (List.mem_append_right _ m)
          · exact Nat.zero_le _
      · rcases List.mem_append.mp m with m | m
        · rcases List.mem_append.mp m with m | m
          · exact f2.ds ds (List.mem_append_left _ (List.mem_append_left _ m))
          · rcases hm ds m with m | rfl
            · exact f2.ds ds (List.mem_append_left _ (List.mem_append_right _ m))
            · exact fun _ h => absurd h List.not_mem_nil
        · exact f2.ds ds (List.mem_append_right _ m)
    have cut : ∀ (l : List (List GDeed)), cutD ((l ++ [[]]).map gdsD) none (some (-2)) = ((l ++ [[]]).take (l.length - 1)).map gdsD := fun l => by
      unfold cutD
      have e : HT.sIx ((l ++ [[]]).map gdsD).length ((l ++ [[]]).map gdsD).length (some (-2)) = l.length - 1 := by
        have hll : ((l ++ [([] : List GDeed)]).map gdsD).length = l.length + 1 := by rw [List.length_map, List.length_append]; rfl
        rw [hll]
        show (if (-2 : Int) < 0 then ((-2 : Int) + ((l.length + 1 : Nat) : Int)).toNat else min (-2 : Int).toNat (l.length + 1)) = _
        rw [if_pos (by decide)]; omega
      rw [e, HT.sIx_none, Nat.sub_zero, List.drop_zero, List.map_take]
    have mem1 : ∀ (l : List (List GDeed)), ∀ ds ∈ l ++ [[]], ds ∈ l ∨ ds = [] := fun l ds m => by
      rcases List.mem_append.mp m with m | m
      · exact .inl m
      · exact .inr (List.mem_singleton.mp m)
    have snoc : ∀ (l : List (List GDeed)), l.map gdsD ++ [D.tup []] = (l ++ [[]]).map gdsD := fun l => by rw [List.map_append]; rfl
    have len1 : ∀ (l : List (List GDeed)), (l ++ [([] : List GDeed)]).length = l.length + 1 := fun l => by rw [List.length_append]; rfl
    have fi := f.il
    have fo := f.ol
    refine sq_i ?_
    rcases (show c / 4 % 2 = 0 ∨ c / 4 % 2 = 1 by omega) with e | e
    · walk_at "vx"
      rw [e]
      refine ⟨5, rfl, _, rfl, _, rfl, by rw [List.length_map]; omega, fun _ => ⟨_, rfl, ?_⟩, fun _ => ⟨_, rfl, ?_⟩⟩
      · rw [snoc]
        refine ⟨noOwnL_map gdsD noOwn_gds _, 5, rfl, _, rfl, ?_⟩
        rw [cut]
        have ll : ((P.ins ++ [[]]).take (P.ins.length - 1)).length = P.ins.length - 1 := by rw [List.length_take, len1]; omega
        exact goI _ (by omega) (by omega) fun ds m => mem1 _ ds (List.mem_of_mem_take m)
      · rw [snoc]
        have ll := len1 P.ins
        exact goI _ (by omega) (by omega) (mem1 _)
    · walk_at "vx"
      rw [e]
      refine ⟨6, rfl, _, rfl, _, rfl, by rw [List.length_map]; omega, fun _ => ⟨_, rfl, ?_⟩, fun _ => ⟨_, rfl, ?_⟩⟩
      · rw [snoc]
        refine ⟨noOwnL_map gdsD noOwn_gds _, 6, rfl, _, rfl, ?_⟩
        rw [cut]
        have ll : ((P.outs ++ [[]]).take (P.outs.length - 1)).length = P.outs.length - 1 := by rw [List.length_take, len1]; omega
        exact goO _ (by omega) (by omega) fun ds m => mem1 _ ds (List.mem_of_mem_take m)
      · rw [snoc]
        have ll := len1 P.outs
        exact goO _ (by omega) (by omega) (mem1 _)
  · refine sq_i ?_
    walk_at "vx"
    refine sq_cut (fun env => ∃ src : Int, env = [some (.lst true [.lst true (P.bx.map bxP), .lst true (P.nm.map .str), .lst true (P.ks.map .str), lI true P.es, lI true P.ss, .lst true (P.ins.map gdsD), .lst true (P.outs.map gdsD), .lst true (P.ways.map gwD)]), some (.int c), some (gdD d), some (.int way), some (.int (atn : Int)), some (.int src)]) ?_ ?_
    · walk_at "vx"
      refine ⟨_, rfl, ⟨eqOk_gws f.we true, by decide⟩, fun h => ?_, fun _ => ⟨0, rfl⟩⟩
      rw [deq_nil] at h
      have hne : P.ways ≠ [] := of_decide_eq_false h
      refine ⟨_, rfl, ?_⟩
      have el : P.ways = P.ways.dropLast ++ [P.ways.getLast hne] := (List.dropLast_concat_getLast hne).symm
      rw [el, List.map_append]
      refine ⟨_, atI_end, ?_⟩
      unfold gwD
      exact ⟨_, rfl, rfl, _, rfl⟩
    rintro _ ⟨src, rfl⟩
    walk_at "vx"
    refine ⟨7, rfl, _, rfl, _, rfl, by have := f.wl; rw [List.length_map]; omega, noOwn_gdD d, ?_⟩
    have f2 := f.up (Nat.le_add_right n 2)
    have e := q P.ins P.outs (P.ways ++ [⟨src, "go", [], [.call "go", d], -1, "new"⟩])
    have g2 : ("go" : Str).length = 2 := by decide +kernel
    refine ⟨_, rfl, ?_⟩
    have e := e ?_ ?_
    · unfold pgL at e
      dsimp only at e
      rw [List.map_append] at e
      exact e
    · refine { f2 with wl := (by have := f.wl; show (P.ways ++ [_]).length ≤ _; rw [List.length_append]; show _ + 1 ≤ _; omega), ds := fun ds m => ?_, sg := fun w m => ?_, al := fun w m => ?_, as := fun w m => ?_, we := fun w m => ?_ }
      · rw [show (P.ways ++ [(⟨src, "go", [], [.call "go", d], -1, "new"⟩ : GWay)]).map GWay.deeds = P.ways.map GWay.deeds ++ [[.call "go", d]] by rw [List.map_append]; rfl] at m
        rcases List.mem_append.mp m with m | m
        · exact f.ds ds (List.mem_append_left _ m)
        · rcases List.mem_append.mp m with m | m
          · exact f.ds ds (List.mem_append_right _ m)
          · rw [List.mem_singleton.mp m]
            intro x mx
            simp only [List.mem_cons, List.not_mem_nil, or_false] at mx
            rcases mx with rfl | rfl
            · show ("go" : Str).length ≤ 16777216; omega
            · exact fd
      · rcases List.mem_append.mp m with m | m
        · exact f.sg w m
        · rw [List.mem_singleton.mp m]; show ("go" : Str).length ≤ 16777216; omega
      · rcases List.mem_append.mp m with m | m
        · exact f2.al w m
        · rw [List.mem_singleton.mp m]; exact Nat.zero_le _
      · rcases List.mem_append.mp m with m | m
        · exact f.as w m
        · rw [List.mem_singleton.mp m]; exact fun _ h => absurd h List.not_mem_nil
      · rcases List.mem_append.mp m with m | m
        · exact f.we w m
        · rw [List.mem_singleton.mp m]
          refine ⟨(by decide +kernel : PyData.strOk "go" = true), (by decide +kernel : PyData.strOk "new" = true), (fun _ h => absurd h List.not_mem_nil), fun x mx => ?_⟩
          simp only [List.mem_cons, List.not_mem_nil, or_false] at mx
          rcases mx with rfl | rfl
          · show PyData.strOk "go" = true; decide +kernel
          · exact sd
    · intro z
      have := z.2.2 [.call "go", d] (List.mem_append_right _ (List.mem_map.mpr ⟨⟨src, "go", [], [.call "go", d], -1, "new"⟩, by simp, rfl⟩)) d (by simp)
      rw [show rdB ((P.bx.length : Nat) : Int) d = false from hd] at this
      cases this
-- needs: m_spoil L_bad_term
def sp_L_bad_ask : SpD := fun ds Q => ∃ (c many moods : Int), ds = [.int c, .int many, .int moods] ∧ 0 ≤ many ∧ many ≤ 1000 ∧ 0 ≤ moods ∧ ∀ a, raB moods many a = false → fGA a → sGA a → Q (gaD a)
theorem len_L_bad_ask : ∀ ds Q, sp_L_bad_ask ds Q → ds.length = 3 := by rintro _ _ ⟨_, _, _, rfl, _⟩; rfl
theorem u_L_bad_ask {c many moods : Int} {Q : D → Prop} (h : 0 ≤ many) (h2 : many ≤ 1000) (h3 : 0 ≤ moods) (q : ∀ a, raB moods many a = false → fGA a → sGA a → Q (gaD a)) : sp_L_bad_ask [.int c, .int many, .int moods] Q := ⟨c, many, moods, rfl, h, h2, h3, q⟩
theorem d_L_bad_ask : ∀ ds Q, sp_L_bad_ask ds Q → w_L_bad_ask sp_L_bad_term { nx := fun _ => Q .non, rt := fun d _ => Q d } (env0 4 ds) := by
  rintro _ Q ⟨c, many, moods, rfl, h0, h2, h3, q⟩
  unfold w_L_bad_ask
  refine sq_i ?_
  walk_at "vx"
  have w0 := Int.emod_nonneg c (show (4 : Int) ≠ 0 by decide)
  have w1 := Int.emod_lt_of_pos c (show (0 : Int) < 4 by decide)
  generalize c % 4 = way at w0 w1 ⊢
  refine sq_i ?_
  walk_at "vx"
  generalize c / 4 = c at *
  refine sq_i ?_
  walk_at "vx"
  refine ⟨fun h => ?_, fun hn0 => ?_⟩
  · rcases (show c % 2 = 0 ∨ c % 2 = 1 by omega) with e | e <;> rw [e] <;> rcases (show c / 2 % 2 = 0 ∨ c / 2 % 2 = 1 by omega) with e2 | e2 <;> rw [e2] <;> walk_at "vx"
    · exact q (.op true moods) (by show (decide (0 ≤ moods) && decide (moods < moods)) = false; rw [decide_eq_false (show ¬ moods < moods by omega)]; simp) trivial trivial
    · exact q (.op true (-1)) rfl trivial trivial
    · exact q (.op false moods) (by show (decide (0 ≤ moods) && decide (moods < moods)) = false; rw [decide_eq_false (show ¬ moods < moods by omega)]; simp) trivial trivial
    · exact q (.op false (-1)) rfl trivial trivial
  refine sq_i ?_
  walk_at "vx"
  refine ⟨fun h => ?_, fun hn1 => ?_⟩
  · have m0 := Int.emod_nonneg c (show (4 : Int) ≠ 0 by decide)
    have m1 := Int.emod_lt_of_pos c (show (0 : Int) < 4 by decide)
    refine ix_map (f := D.str) (xs := ["<>", "", ">", "=="]) "" m0 (by show c % 4 < 4; exact m1) ⟨rfl, ?_⟩
    have hm : (["<>", "", ">", "=="] : List Str).getD (c % 4).toNat "" ∈ (["<>", "", ">", "=="] : List Str) := getD_mem (by show (c % 4).toNat < 4; omega)
    generalize (["<>", "", ">", "=="] : List Str).getD (c % 4).toNat "" = k at hm ⊢
    have hk : ∀ k ∈ (["<>", "", ">", "=="] : List Str), k ∉ marksL ∧ k ≠ "open" ∧ k ≠ "shut" ∧ PyData.strOk k = true := by decide +kernel
    obtain ⟨k1, k2, k3, k4⟩ := hk k hm
    refine q (.nu k (-1, 1) (-1, 2)) ?_ ⟨k2, k3⟩ k4
    show (decide (k ∈ marksL) && _) = false
    rw [decide_eq_false k1]; rfl
  have bt := badT_bad (c := c) h0
  have k1 : ("<=" : Str) ≠ "open" ∧ ("<=" : Str) ≠ "shut" ∧ PyData.strOk "<=" = true ∧ ("!=" : Str) ≠ "open" ∧ ("!=" : Str) ≠ "shut" ∧ PyData.strOk "!=" = true := by decide +kernel
  refine sq_i ?_
  walk_at "vx"
  refine ⟨fun h => u_L_bad_term h0 h2 (q (.nu "<=" (badT c many) (-1, 0)) ?_ ⟨k1.1, k1.2.1⟩ k1.2.2.1), fun hn1 => ?_⟩
  · show (decide (("<=" : Str) ∈ marksL) && (rtB many (badT c many) && _)) = false
    rw [bt]; simp
  refine u_L_bad_term h0 h2 (q (.nu "!=" (-1, 0) (badT c many)) ?_ ⟨k1.2.2.2.1, k1.2.2.2.2.1⟩ k1.2.2.2.2.2)
  show (decide (("!=" : Str) ∈ marksL) && (_ && rtB many (badT c many))) = false
  rw [bt]; simp
-- needs: m_spoil L_bad_name L_bad_ask L_put_in
def gwL (w : GWay) : List D := [.int w.src, .str w.sign, .tup (w.asks.map gaD), gdsD w.deeds, .int w.tgt, .str w.mode]
def zWay : GWay := ⟨0, "go", [], [], -1, "new"⟩
def sp_L_spoil_way : SpM := fun ds Q => ∃ P c n, ds = [.lst true (pgL P), .int c] ∧ fS P n ∧ n ≤ 10 ∧ lkW P ∧ 1 ≤ P.nm.length ∧ ∀ wl, fS { P with ways := wl } (n + 2) → ¬ lkW { P with ways := wl } → (lkD P → lkD { P with ways := wl }) → Q .non [.lst true (pgL { P with ways := wl }), .int c]
theorem len_L_spoil_way : ∀ ds Q, sp_L_spoil_way ds Q → ds.length = 2 := by rintro _ _ ⟨_, _, _, rfl, _⟩; rfl
theorem u_L_spoil_way {P : PG} {c : Int} {n : Nat} {Q : D → List D → Prop} (h : fS P n) (hn : n ≤ 10) (h1 : lkW P) (h3 : 1 ≤ P.nm.length) (q : ∀ wl, fS { P with ways := wl } (n + 2) → ¬ lkW { P with ways := wl } → (lkD P → lkD { P with ways := wl }) → Q .non [.lst true (pgL { P with ways := wl }), .int c]) : sp_L_spoil_way [.lst true (pgL P), .int c] Q := ⟨P, c, n, rfl, h, hn, h1, h3, q⟩
theorem d_L_spoil_way : ∀ ds Q, sp_L_spoil_way ds Q → w_L_spoil_way sp_L_bad_name sp_L_put_in sp_L_bad_ask { nx := fun env => ∃ ds', backD [0] env 0 ds = some ds' ∧ Q .non ds', rt := fun d env => ∃ ds', backD [0] env 0 ds = some ds' ∧ Q d ds' } (env0 7 ds) := by
  rintro _ Q ⟨P, c, n, rfl, f, hn, hW, one, q⟩
  have fb := f.bl
  have fn := f.nl
  have fw := f.wl
  unfold w_L_spoil_way pgL
  refine sq_i ?_
  walk_at "vx"
  refine sq_cut (fun env => ∃ ws : List GWay, ws ≠ [] ∧ fS { P with ways := ws } (n + 1) ∧ lkW { P with ways := ws } ∧ (lkD P → lkD { P with ways := ws }) ∧ env = [some (.lst true [.lst true (P.bx.map bxP), .lst true (P.nm.map .str), .lst true (P.ks.map .str), lI true P.es, lI true P.ss, .lst true (P.ins.map gdsD), .lst true (P.outs.map gdsD), .lst true (ws.map gwD)]), some (.int c), some (.int P.nm.length), none, none, none, none]) ?_ ?_
  · walk_at "vx"
    refine ⟨_, rfl, ⟨eqOk_gws f.we true, by decide⟩, fun h => ?_, fun h => ?_⟩
    · rw [deq_nil] at h
      have he : P.ways = [] := of_decide_eq_true h
      refine ⟨7, rfl, _, rfl, _, rfl, by rw [List.length_map]; omega, [⟨0, "go", [], [], 0, "new"⟩], by simp, ?_, ?_, fun z => ?_, by rw [he]; rfl⟩
      · have f1 := f.up (Nat.le_succ n)
        have g2 : ("go" : Str).length = 2 := by decide +kernel
        refine { f1 with wl := (by show 1 ≤ _; omega), ds := fun ds m => ?_, sg := fun w m => ?_, al := fun w m => ?_, as := fun w m => ?_, we := fun w m => ?_ }
        · rcases List.mem_append.mp m with m | m
          · exact f.ds ds (List.mem_append_left _ m)
          · have : ds = [] := List.mem_singleton.mp m
            rw [this]; exact fun _ h => absurd h List.not_mem_nil
        · rw [List.mem_singleton.mp m]; show ("go" : Str).length ≤ 16777216; omega
        · rw [List.mem_singleton.mp m]; exact Nat.zero_le _
        · rw [List.mem_singleton.mp m]; exact fun _ h => absurd h List.not_mem_nil
        · rw [List.mem_singleton.mp m]
          exact ⟨(by decide +kernel : PyData.strOk "go" = true), (by decide +kernel : PyData.strOk "new" = true), (fun _ h => absurd h List.not_mem_nil), (fun _ h => absurd h List.not_mem_nil)⟩
      · refine ⟨by simp, fun w m => ?_⟩
        rw [List.mem_singleton.mp m]
        exact ⟨Int.le_refl _, (by show (0 : Int) < P.nm.length; omega), (by show (-1 : Int) ≤ 0; omega), (by show (0 : Int) < P.nm.length; omega), (by decide +kernel : isNameM "go" = true), (by decide +kernel : ("new" : Str) ∈ modesL), (fun _ => rfl), (fun _ h => absurd h List.not_mem_nil)⟩
      · refine ⟨z.1, z.2.1, fun ds m => ?_⟩
        rcases List.mem_append.mp m with m | m
        · exact z.2.2 ds (List.mem_append_left _ m)
        · have : ds = [] := List.mem_singleton.mp m
          rw [this]; exact fun _ h => absurd h List.not_mem_nil
    · rw [deq_nil] at h
      exact ⟨P.ways, of_decide_eq_false h, f.up (Nat.le_succ n), hW, fun z => z, rfl⟩
  rintro _ ⟨ws, hne, f1, hW1, hD1, rfl⟩
  have q1 : ∀ wl, fS { P with ways := wl } (n + 2) → ¬ lkW { P with ways := wl } → (lkD { P with ways := ws } → lkD { P with ways := wl }) → Q .non [.lst true [.lst true (P.bx.map bxP), .lst true (P.nm.map .str), .lst true (P.ks.map .str), lI true P.es, lI true P.ss, .lst true (P.ins.map gdsD), .lst true (P.outs.map gdsD), .lst true (wl.map gwD)], .int c] := fun wl a b d => q wl a b fun z => d (hD1 z)
  clear q
  have lw : 1 ≤ ws.length := Nat.pos_of_ne_zero fun e => hne (List.eq_nil_of_length_eq_zero e)
  have fw1 : ws.length ≤ 500 + (n + 1) := f1.wl
  walk_at "vx"
  refine ⟨by decide, 7, rfl, _, rfl, ⟨_, rfl⟩, fun p => ?_⟩
  refine sq_i ?_
  walk_at "vx"
  refine ⟨by omega, ?_⟩
  have a0 := Int.emod_nonneg (c / 9) (show (ws.length : Int) ≠ 0 by omega)
  have a1 := Int.emod_lt_of_pos (c / 9) (show (0 : Int) < ws.length by omega)
  generalize hat : c / 9 % (ws.length : Int) = at_ at a0 a1 ⊢
  obtain ⟨atn, rfl⟩ : ∃ k : Nat, at_ = (k : Int) := ⟨at_.toNat, by omega⟩
  have hat2 : atn < ws.length := by omega
  refine sq_i ?_
  walk_at "vx"
  have mw : ws.getD atn zWay ∈ ws := getD_mem hat2
  refine ix_map (f := gwD) (xs := ws) zWay a0 a1 ?_
  rw [Int.toNat_natCast]
  generalize ws.getD atn zWay = w at mw ⊢
  have sw : sGW w := f1.we w mw
  have aw : w.asks.length ≤ 1000 + (n + 1) := f1.al w mw
  have hsw : w.sign.length ≤ 16777216 := f1.sg w mw
  have haw : ∀ a ∈ w.asks, fGA a := f1.as w mw
  rw [show gwD w = .tup (gwL w) from rfl]
  unfold gwL
  walk_at "vx"
  refine ⟨by rw [noOwn_gds, noOwnL_map gaD noOwn_gaD]; exact ⟨rfl, rfl⟩, ?_⟩
  refine sq_i ?_
  walk_at "vx"
  have k0 := Int.emod_nonneg c (show (9 : Int) ≠ 0 by decide)
  have k1 := Int.emod_lt_of_pos c (show (0 : Int) < 9 by decide)
  generalize hk : c % 9 = kind at k0 k1 ⊢
  refine sq_i ?_
  walk_at "vx"
  generalize c / 1000 = c2
  refine sq_cut (fun env => ∃ (w' : GWay) (ws' : List GWay), sGW w' ∧ w'.asks.length ≤ 1000 + (n + 2) ∧ w'.sign.length ≤ 16777216 ∧ (∀ a ∈ w'.asks, fGA a) ∧ w'.deeds = w.deeds ∧ ((ws' = ws ∧ ¬ rwG P.nm.length P.bx.length w') ∨ (ws' = ws ++ [zWay] ∧ w'.src = 1)) ∧
    env = [some (.lst true [.lst true (P.bx.map bxP), .lst true (P.nm.map .str), .lst true (P.ks.map .str), lI true P.es, lI true P.ss, .lst true (P.ins.map gdsD), .lst true (P.outs.map gdsD), .at p none]), some (.int c2), some (.int P.nm.length), some (.lst true (ws'.map gwD)), some (.int (atn : Int)), some (.lst true (gwL w')), some (.int kind)]) ?_ ?_
  · walk_at "vx"
    have aw2 : w.asks.length ≤ 1000 + (n + 2) := by omega
    refine ⟨fun h => ?_, fun h3 => ⟨fun h => ?_, fun h4 => ⟨fun h => ?_, fun h5 => ⟨fun h => ?_, fun h6 => ⟨fun h => ?_, fun h7 => ⟨fun h => ?_, fun h8 => ?_⟩⟩⟩⟩⟩⟩
    · refine ix_map (f := D.int) (xs := [-1, (P.nm.length : Int), P.nm.length + 1]) 0 k0 (by show kind < 3; exact h) ⟨rfl, { w with src := ([-1, (P.nm.length : Int), P.nm.length + 1] : List Int).getD kind.toNat 0 }, ws, ⟨sw.sg, sw.md, sw.as, sw.ds⟩, aw2, hsw, haw, rfl, .inl ⟨rfl, fun z => ?_⟩, rfl⟩
      have z0 : 0 ≤ ([-1, (P.nm.length : Int), P.nm.length + 1] : List Int).getD kind.toNat 0 := z.s0
      have z1 : ([-1, (P.nm.length : Int), P.nm.length + 1] : List Int).getD kind.toNat 0 < P.nm.length := z.s1
      rcases (show kind = 0 ∨ kind = 1 ∨ kind = 2 by omega) with rfl | rfl | rfl
      · exact absurd (show (0 : Int) ≤ -1 from z0) (by decide)
      · have : (P.nm.length : Int) < P.nm.length := z1
        omega
      · have : (P.nm.length : Int) + 1 < P.nm.length := z1
        omega
    · have g2 : ("go" : Str).length = 2 := by decide +kernel
      have g3 : PyData.strOk "go" = true := by decide +kernel
      have bl := badF_len c2 "go"
      have bb := badF_bad c2 "go"
      have bs := badF_str (c := c2) g3
      refine u_L_bad_name (by omega) ?_
      exact ⟨{ w with sign := badF c2 "go" }, ws, ⟨bs, sw.md, sw.as, sw.ds⟩, aw2, by show (badF c2 "go").length ≤ _; omega, haw, rfl, .inl ⟨rfl, fun z => (by have := z.sg; rw [show isNameM (badF c2 "go") = false from bb] at this; cases this)⟩, rfl⟩
    · have m0 := Int.emod_nonneg c2 (show (2 : Int) ≠ 0 by decide)
      have m1 := Int.emod_lt_of_pos c2 (show (0 : Int) < 2 by decide)
      refine ix_map (f := D.int) (xs := [(P.nm.length : Int), -2]) 0 m0 (by show c2 % 2 < 2; exact m1) ⟨rfl, 4, rfl, { w with tgt := ([(P.nm.length : Int), -2] : List Int).getD (c2 % 2).toNat 0 }, ws, ⟨sw.sg, sw.md, sw.as, sw.ds⟩, aw2, hsw, haw, rfl, .inl ⟨rfl, fun z => ?_⟩, rfl⟩
      have z0 : -1 ≤ ([(P.nm.length : Int), -2] : List Int).getD (c2 % 2).toNat 0 := z.t0
      have z1 : ([(P.nm.length : Int), -2] : List Int).getD (c2 % 2).toNat 0 < P.nm.length := z.t1
      rcases (show c2 % 2 = 0 ∨ c2 % 2 = 1 by omega) with e | e <;> rw [e] at z0 z1
      · have : (P.nm.length : Int) < P.nm.length := z1
        omega
      · exact absurd (show (-1 : Int) ≤ -2 from z0) (by decide)
    · have m0 := Int.emod_nonneg c2 (show (3 : Int) ≠ 0 by decide)
      have m1 := Int.emod_lt_of_pos c2 (show (0 : Int) < 3 by decide)
      refine ix_map (f := D.str) (xs := ["", "fresh", "New"]) "" m0 (by show c2 % 3 < 3; exact m1) ⟨rfl, 5, rfl, ?_⟩
      have hm : (["", "fresh", "New"] : List Str).getD (c2 % 3).toNat "" ∈ (["", "fresh", "New"] : List Str) := getD_mem (by show (c2 % 3).toNat < 3; omega)
      generalize (["", "fresh", "New"] : List Str).getD (c2 % 3).toNat "" = k at hm ⊢
      have hk : ∀ k ∈ (["", "fresh", "New"] : List Str), k ∉ modesL ∧ PyData.strOk k = true := by decide +kernel
      exact ⟨{ w with mode := k }, ws, ⟨sw.sg, (hk k hm).2, sw.as, sw.ds⟩, aw2, hsw, haw, rfl, .inl ⟨rfl, fun z => (hk k hm).1 z.md⟩, rfl⟩
    · refine sq_i ?_
      walk_at "vx"
      have m0 := Int.emod_nonneg c2 (show (2 : Int) ≠ 0 by decide)
      have m1 := Int.emod_lt_of_pos c2 (show (0 : Int) < 2 by decide)
      refine ⟨4, rfl, ?_⟩
      refine ix_map (f := D.str) (xs := ["near", "far"]) "" m0 (by show c2 % 2 < 2; exact m1) ⟨rfl, 5, rfl, ?_⟩
      have hm : (["near", "far"] : List Str).getD (c2 % 2).toNat "" ∈ (["near", "far"] : List Str) := getD_mem (by show (c2 % 2).toNat < 2; omega)
      generalize (["near", "far"] : List Str).getD (c2 % 2).toNat "" = k at hm ⊢
      have hk : ∀ k ∈ (["near", "far"] : List Str), k ≠ "new" ∧ PyData.strOk k = true := by decide +kernel
      exact ⟨{ w with tgt := -1, mode := k }, ws, ⟨sw.sg, (hk k hm).2, sw.as, sw.ds⟩, aw2, hsw, haw, rfl, .inl ⟨rfl, fun z => (hk k hm).1 (z.st rfl)⟩, rfl⟩
    · refine u_L_bad_ask (by omega) (by omega) (by omega) fun a ha fa sa => ?_
      have efz : frzL (w.asks.map gaD) = w.asks.map gaD := frzL_id _ (noOwnL_map gaD noOwn_gaD w.asks)
      rw [efz, frz_id _ (noOwn_gaD a)]
      refine u_L_put_in (noOwnL_map gaD noOwn_gaD _) (noOwn_gaD a) (by rw [List.length_map]; omega) fun k hk => ?_
      have e1 : D.tup ((w.asks.map gaD).take k ++ [gaD a] ++ (w.asks.map gaD).drop k) = .tup ((w.asks.take k ++ [a] ++ w.asks.drop k).map gaD) := by
        rw [List.map_append, List.map_append, List.map_take, List.map_drop]; rfl
      rw [e1]
      refine ⟨.inr ⟨noOwnL_map gaD noOwn_gaD _, noOwn_gaD a⟩, { w with asks := w.asks.take k ++ [a] ++ w.asks.drop k }, ws, ⟨sw.sg, sw.md, fun x m => ?_, sw.ds⟩, ?_, hsw, fun x m => ?_, rfl, .inl ⟨rfl, fun z => ?_⟩, rfl⟩
      · simp only [List.mem_append, List.mem_singleton] at m
        rcases m with (m | m) | m
        · exact sw.as x (List.mem_of_mem_take m)
        · rw [m]; exact sa
        · exact sw.as x (List.mem_of_mem_drop m)
      · simp only [List.length_append, List.length_take, List.length_drop, List.length_singleton]; omega
      · simp only [List.mem_append, List.mem_singleton] at m
        rcases m with (m | m) | m
        · exact haw x (List.mem_of_mem_take m)
        · rw [m]; exact fa
        · exact haw x (List.mem_of_mem_drop m)
      · have := z.as a (by simp)
        rw [show raB ((P.nm.length : Nat) : Int) ((P.bx.length : Nat) : Int) a = false from ha] at this
        cases this
    · refine sq_i ?_
      walk_at "vx"
      exact ⟨by omega, { w with src := 1 }, ws ++ [zWay], ⟨sw.sg, sw.md, sw.as, sw.ds⟩, aw2, hsw, haw, rfl, .inr ⟨rfl, rfl⟩, by rw [List.map_append]; rfl⟩
  rintro _ ⟨w', ws', s1, s2, s3, s4, s5, s6, rfl⟩
  unfold gwL
  walk_at "vx"
  have fin : ∀ wl, wl.length ≤ 500 + (n + 2) → (∀ v ∈ wl, v ∈ ws ∨ v = w' ∨ v = zWay) → ¬ lkW { P with ways := wl } → Q .non [.lst true [.lst true (P.bx.map bxP), .lst true (P.nm.map .str), .lst true (P.ks.map .str), lI true P.es, lI true P.ss, .lst true (P.ins.map gdsD), .lst true (P.outs.map gdsD), .lst true (wl.map gwD)], .int c] := fun wl hl hm hb => by
    have f2 := f1.up (Nat.le_succ (n + 1))
    have hz : sGW zWay := ⟨(by decide +kernel : PyData.strOk "go" = true), (by decide +kernel : PyData.strOk "new" = true), (fun _ h => absurd h List.not_mem_nil), (fun _ h => absurd h List.not_mem_nil)⟩
    have g2 : ("go" : Str).length = 2 := by decide +kernel
    have hds : ∀ ds ∈ wl.map GWay.deeds, ds ∈ ws.map GWay.deeds ∨ ds = [] := fun ds m => by
      obtain ⟨v, hv, rfl⟩ := List.mem_map.mp m
      rcases hm v hv with m | rfl | rfl
      · exact .inl (List.mem_map.mpr ⟨v, m, rfl⟩)
      · rw [s5]; exact .inl (List.mem_map.mpr ⟨w, mw, rfl⟩)
      · exact .inr rfl
    refine q1 wl { f2 with wl := hl, ds := fun ds m => ?_, sg := fun v m => ?_, al := fun v m => ?_, as := fun v m => ?_, we := fun v m => ?_ } hb fun z => ⟨z.1, z.2.1, fun ds m => ?_⟩
    · rcases List.mem_append.mp m with m | m
      · exact f1.ds ds (List.mem_append_left _ m)
      · rcases hds ds m with m | rfl
        · exact f1.ds ds (List.mem_append_right _ m)
        · exact fun _ h => absurd h List.not_mem_nil
    · rcases hm v m with m | rfl | rfl
      · exact f1.sg v m
      · exact s3
      · show ("go" : Str).length ≤ 16777216; omega
    · rcases hm v m with m | rfl | rfl
      · exact f2.al v m
      · exact s2
      · exact Nat.zero_le _
    · rcases hm v m with m | rfl | rfl
      · exact f1.as v m
      · exact s4
      · exact fun _ h => absurd h List.not_mem_nil
    · rcases hm v m with m | rfl | rfl
      · exact f1.we v m
      · exact s1
      · exact hz
    · rcases List.mem_append.mp m with m | m
      · exact z.2.2 ds (List.mem_append_left _ m)
      · rcases hds ds m with m | rfl
        · exact z.2.2 ds (List.mem_append_right _ m)
        · exact fun _ h => absurd h List.not_mem_nil
  have l1 : ws'.length = ws.length ∨ ws'.length = ws.length + 1 := by
    rcases s6 with ⟨rfl, _⟩ | ⟨rfl, _⟩
    · exact .inl rfl
    · exact .inr (by rw [List.length_append]; rfl)
  have hat3 : atn < ws'.length := by omega
  refine ⟨⟨noOwnL_map gaD noOwn_gaD _, noOwn_gds _⟩, _, ixN_nat hat3, _, _, rfl, rfl, rfl, _, rfl, ?_⟩
  rw [show D.tup [.int w'.src, .str w'.sign, .tup (w'.asks.map gaD), gdsD w'.deeds, .int w'.tgt, .str w'.mode] = gwD w' from rfl, len_set_map]
  have hmem : w' ∈ ws'.set atn w' := List.mem_iff_getElem.mpr ⟨atn, by rw [List.length_set]; omega, List.getElem_set_self _⟩
  refine fin _ (by rw [List.length_set]; omega) (fun v m => ?_) fun z => ?_
  · rcases List.mem_or_eq_of_mem_set m with m | m
    · rcases s6 with ⟨rfl, _⟩ | ⟨rfl, _⟩
      · exact .inl m
      · rcases List.mem_append.mp m with m | m
        · exact .inl m
        · exact .inr (.inr (List.mem_singleton.mp m))
    · exact .inr (.inl m)
  · rcases s6 with ⟨rfl, hb⟩ | ⟨rfl, hs⟩
    · exact hb (z.2 w' hmem)
    · have hp : ((ws ++ [zWay]).set atn w').map GWay.src |>.Pairwise (· ≤ ·) := z.1
      rw [List.set_append_left _ _ hat2, List.map_append] at hp
      have := (List.pairwise_append.mp hp).2.2 w'.src (List.mem_map.mpr ⟨w', List.mem_iff_getElem.mpr ⟨atn, by rw [List.length_set]; omega, List.getElem_set_self _⟩, rfl⟩) 0 (by show (0 : Int) ∈ [(0 : Int)]; simp)
      omega
-- needs: m_spoil L_spoil_tree L_spoil_name L_spoil_box L_spoil_deed L_spoil_way
/-- what a spoiling of the kind w leaves and breaks -/
def spoilR (w : Int) (P P' : PG) : Prop :=
  (w = 0 → ¬ (lkN P' ∧ lkK P')) ∧ (w = 1 → (lkN P → lkN P') ∧ (lkK P → lkK P') ∧ ¬ lkM P') ∧ (w = 2 → (lkN P → lkN P') ∧ (lkK P → lkK P') ∧ (lkM P → lkM P') ∧ ¬ lkX P') ∧
  (w = 3 → (lkN P → lkN P') ∧ (lkK P → lkK P') ∧ (lkM P → lkM P') ∧ (lkX P → lkX P') ∧ ¬ lkD P') ∧ (w = 4 → (lkN P → lkN P') ∧ (lkK P → lkK P') ∧ (lkM P → lkM P') ∧ (lkX P → lkX P') ∧ (lkD P → lkD P') ∧ ¬ lkW P') ∧
  (1 ≤ w → P'.nm.length = P.nm.length) ∧ (4 ≤ w → P'.ins = P.ins ∧ P'.outs = P.outs)
def sp_L_spoil_2 : SpM := fun ds Q => ∃ P w c n, ds = [.lst true (pgL P), .int w, .int c] ∧ 0 ≤ w ∧ w ≤ 4 ∧ fS P n ∧ n ≤ 10 ∧ lkN P ∧ lkK P ∧ (w = 3 → P.ins.length = P.nm.length ∧ P.outs.length = P.nm.length) ∧ (w = 4 → lkW P) ∧ ∀ P', fS P' (n + 2) → spoilR w P P' → Q .non [.lst true (pgL P'), .int w, .int c]
theorem len_L_spoil_2 : ∀ ds Q, sp_L_spoil_2 ds Q → ds.length = 3 := by rintro _ _ ⟨_, _, _, _, rfl, _⟩; rfl
theorem u_L_spoil_2 {P : PG} {w c : Int} {n : Nat} {Q : D → List D → Prop} (w0 : 0 ≤ w) (w4 : w ≤ 4) (h : fS P n) (hn : n ≤ 10) (hN : lkN P) (hK : lkK P) (h3 : w = 3 → P.ins.length = P.nm.length ∧ P.outs.length = P.nm.length) (h4 : w = 4 → lkW P) (q : ∀ P', fS P' (n + 2) → spoilR w P P' → Q .non [.lst true (pgL P'), .int w, .int c]) : sp_L_spoil_2 [.lst true (pgL P), .int w, .int c] Q := ⟨P, w, c, n, rfl, w0, w4, h, hn, hN, hK, h3, h4, q⟩
theorem d_L_spoil_2 : ∀ ds Q, sp_L_spoil_2 ds Q → w_L_spoil_2 sp_L_spoil_tree sp_L_spoil_name sp_L_spoil_box sp_L_spoil_deed sp_L_spoil_way { nx := fun env => ∃ ds', backD [0] env 0 ds = some ds' ∧ Q .non ds', rt := fun d env => ∃ ds', backD [0] env 0 ds = some ds' ∧ Q d ds' } (env0 3 ds) := by
  rintro _ Q ⟨P, w, c, n, rfl, w0, w4, f, hn, hN, hK, h3, h4, q⟩
  have nl : 1 ≤ P.nm.length := by
    have := hN.2.2.2.one
    have := hN.1
    have := hN.2.2.1
    omega
  unfold w_L_spoil_2
  walk_at "vx"
  refine ⟨fun h => ?_, fun n0 => ⟨fun h => ?_, fun n1 => ⟨fun h => ?_, fun n2 => ⟨fun h => ?_, fun n3 => ?_⟩⟩⟩⟩
  · refine ⟨⟨_, rfl⟩, rfl, u_L_spoil_tree f hn hN hK fun P' f' hb => ⟨_, rfl, _, rfl, q P' (f'.up (Nat.le_succ _)) ?_⟩⟩
    exact ⟨fun _ => hb, fun z => by omega, fun z => by omega, fun z => by omega, fun z => by omega, fun z => by omega, fun z => by omega⟩
  · refine ⟨⟨_, rfl⟩, rfl, u_L_spoil_name f hn nl fun nm' hl f' hb => ⟨_, rfl, _, rfl, q _ (f'.up (Nat.le_succ _)) ?_⟩⟩
    exact ⟨fun z => by omega, fun _ => ⟨fun z => ⟨z.1, z.2.1, hl.trans z.2.2.1, z.2.2.2⟩, fun z => z, hb⟩, fun z => by omega, fun z => by omega, fun z => by omega, fun _ => hl, fun z => by omega⟩
  · refine ⟨⟨_, rfl⟩, rfl, u_L_spoil_box f hn fun bx' f' hb => ⟨_, rfl, _, rfl, q _ f' ?_⟩⟩
    exact ⟨fun z => by omega, fun z => by omega, fun _ => ⟨fun z => z, fun z => z, fun z => z, hb⟩, fun z => by omega, fun z => by omega, fun _ => rfl, fun z => by omega⟩
  · refine ⟨⟨_, rfl⟩, rfl, u_L_spoil_deed f hn (h3 h).1 (h3 h).2 nl fun il ol wl f' hb => ⟨_, rfl, _, rfl, q _ f' ?_⟩⟩
    exact ⟨fun z => by omega, fun z => by omega, fun z => by omega, fun _ => ⟨fun z => z, fun z => z, fun z => z, fun z => z, hb⟩, fun z => by omega, fun _ => rfl, fun z => by omega⟩
  · have e4 : w = 4 := by omega
    refine ⟨⟨_, rfl⟩, rfl, u_L_spoil_way f hn (h4 e4) nl fun wl f' hb hd => ⟨_, rfl, _, rfl, q _ f' ?_⟩⟩
    exact ⟨fun z => by omega, fun z => by omega, fun z => by omega, fun z => by omega, fun _ => ⟨fun z => z, fun z => z, fun z => z, fun z => z, hd, hb⟩, fun _ => rfl, fun _ => ⟨rfl, rfl⟩⟩
-- needs: m_tree
theorem elD_pre {es xs : List Int} {k : Int} (h0 : 0 ≤ k) (h1 : k < es.length) : elD (es ++ xs) k = elD es k := by
  unfold elD
  rw [List.getD_eq_getElem?_getD, List.getD_eq_getElem?_getD, List.getElem?_append_left (by omega)]
theorem chainF_pre {es : List Int} (h : okE es) (xs : List Int) : ∀ (f : Nat) (at_ : Int), -1 ≤ at_ → at_ < es.length → chainF (es ++ xs) f at_ = chainF es f at_
  | 0, _, _, _ => rfl
  | f + 1, at_, h0, h1 => by
    unfold chainF
    split
    · rfl
    · have := h.int (k := at_) (by omega) h1
      rw [elD_pre (by omega) h1, chainF_pre h xs f _ this.1 (by omega)]
theorem upM_pre {es : List Int} (h : okE es) (xs : List Int) {at_ : Int} (h0 : -1 ≤ at_) (h1 : at_ < es.length) : upM (es ++ xs) at_ = upM es at_ := chainF_pre h xs _ _ h0 h1
theorem aboveM_pre {es : List Int} (h : okE es) (xs : List Int) {k : Int} (h0 : 0 ≤ k) (h1 : k < es.length) : aboveM (es ++ xs) k = aboveM es k := by
  have := h.int h0 h1
  unfold aboveM
  rw [elD_pre h0 h1, upM_pre h xs this.1 (by omega)]
theorem okE_snoc {es : List Int} (h : okE es) {x : Int} (h0 : -1 ≤ x) (h1 : x < es.length) : okE (es ++ [x]) := fun k hk => by
  by_cases hk2 : k < es.length
  · rw [elD_app (by omega) (by omega)]; exact h k hk2
  · have e : k = es.length := by simp at hk; omega
    subst e
    have : elD (es ++ [x]) es.length = x := by
      unfold elD
      rw [List.getD_eq_getElem?_getD, show ((es.length : Nat) : Int).toNat = es.length by omega]
      simp
    rw [this]; exact ⟨h0, h1⟩
def sp_aboveG : SpD := fun ds Q => ∃ m ks es xs ss k, ds = [treeD m ks (es ++ xs) ss, .int k] ∧ okE es ∧ es.length ≤ 150 ∧ (es ++ xs).length ≤ 1000 ∧ 0 ≤ k ∧ k < es.length ∧ Q (lI true (aboveM es k))
theorem len_aboveG : ∀ ds Q, sp_aboveG ds Q → ds.length = 2 := by rintro _ _ ⟨_, _, _, _, _, _, rfl, _⟩; rfl
theorem d_aboveG : ∀ ds Q, sp_aboveG ds Q → w_aboveG { nx := fun _ => Q .non, rt := fun d _ => Q d } (env0 4 ds) := by
  rintro _ Q ⟨m, ks, es, xs, ss, k, rfl, ok, hl, hl2, h0, h1, q⟩
  have lx : (es ++ xs).length = es.length + xs.length := List.length_append
  unfold w_aboveG
  refine sq_i ?_
  walk_at "vx"
  refine sq_i ?_
  walk_at "vt"
  refine ix_lI h0 (by omega) ⟨rfl, ?_⟩
  rw [show (es ++ xs).getD k.toNat 0 = elD es k from elD_pre h0 h1]
  refine sq_i ?_
  have he := ok.int h0 h1
  refine ⟨fun env => ∃ (pre : List Int) (at_ : Int), env = [some (treeD m ks (es ++ xs) ss), some (.int k), some (lI true pre), some (.int at_)] ∧ -1 ≤ at_ ∧ at_ < es.length ∧ pre ++ upM es at_ = aboveM es k ∧ (pre.length : Int) + at_ < 150,
    fun env => match env with | [_, _, _, some (.int a)] => (a + 1).toNat | _ => 0, ⟨[], _, rfl, he.1, (show elD es k < es.length by omega), rfl, (show (0 : Int) + elD es k < 150 by omega)⟩, ?_⟩
  rintro _ ⟨pre, at_, rfl, a0, a1, e, hp⟩
  walk_at "vx"
  refine ⟨fun hne => ?_, fun heq => ?_⟩
  · have h0' : 0 ≤ at_ := by omega
    have he := ok.int h0' a1
    refine sq_i ?_
    walk_at "vx"
    refine ⟨by omega, ?_⟩
    walk_at "vt"
    refine ix_lI h0' (by omega) ⟨rfl, ?_⟩
    rw [show (es ++ xs).getD at_.toNat 0 = elD es at_ from elD_pre h0' a1]
    refine ⟨⟨pre ++ [at_], elD es at_, by rw [lI_snoc], he.1, by omega, ?_, by simp; omega⟩, ?_⟩
    · rw [← e, upM_step ok h0' a1, List.append_assoc]; rfl
    · show (elD es at_ + 1).toNat < (at_ + 1).toNat
      omega
  · subst heq
    rw [upM_neg, List.append_nil] at e
    subst e
    exact q
-- needs: aboveG
def sp_depthG : SpD := fun ds Q => ∃ m ks es xs ss k, ds = [treeD m ks (es ++ xs) ss, .int k] ∧ okE es ∧ es.length ≤ 150 ∧ (es ++ xs).length ≤ 1000 ∧ 0 ≤ k ∧ k < es.length ∧ Q (.int (aboveM es k).length)
theorem len_depthG : ∀ ds Q, sp_depthG ds Q → ds.length = 2 := by rintro _ _ ⟨_, _, _, _, _, _, rfl, _⟩; rfl
theorem d_depthG : ∀ ds Q, sp_depthG ds Q → w_depthG sp_aboveG { nx := fun _ => Q .non, rt := fun d _ => Q d } (env0 2 ds) := by
  rintro _ Q ⟨m, ks, es, xs, ss, k, rfl, ok, hl, hl2, h0, h1, q⟩
  unfold w_depthG
  walk_at "vt"
  refine ⟨_, ks, es, xs, ss, k, rfl, ok, hl, hl2, h0, h1, Or.inl (aloL_lI _), ?_⟩
  walk_at "vx"
  exact q
-- needs: m_raw aboveG depthG
def sp_look_at_numbersX : SpG := fun ds QD QX => ∃ P, ds = [chG false P] ∧ fPG P ∧ (lkN P → QD .non [chG false P]) ∧ (¬ lkN P → QX ⟨"BadTree", none⟩ [chG false P])
theorem len_look_at_numbersX : ∀ ds QD QX, sp_look_at_numbersX ds QD QX → ds.length = 1 := by rintro _ _ _ ⟨_, rfl, _⟩; rfl
theorem u_look_at_numbersX {P : PG} {QD : D → List D → Prop} {QX : XC → List D → Prop} (h : fPG P) (q : lkN P → QD .non [chG false P]) (qx : ¬ lkN P → QX ⟨"BadTree", none⟩ [chG false P]) : sp_look_at_numbersX [chG false P] QD QX := ⟨P, rfl, h, q, qx⟩
theorem d_look_at_numbersX : ∀ ds QD QX, sp_look_at_numbersX ds QD QX → w_look_at_numbersX sp_aboveG sp_depthG { nx := fun env => ∃ ds', backD [] env 0 ds = some ds' ∧ QD .non ds', rt := fun d env => ∃ ds', backD [] env 0 ds = some ds' ∧ QD d ds', ex := fun xc env => ∃ ds', backD [] env 0 ds = some ds' ∧ QX xc ds' } (env0 4 ds) := by
  rintro _ QD QX ⟨P, rfl, f, q, qx⟩
  have t1 := f.es
  have t2 := f.ks
  unfold w_look_at_numbersX
  refine sq_i ?_
  walk_at "vG"
  refine sq_i ?_
  walk_at "vG"
  refine sq_cut (fun env => (P.ks ≠ [] ∧ P.es.length = P.ks.length ∧ P.ss.length = P.ks.length ∧ P.nm.length = P.ks.length) ∧ env = [some (chG false P), some (treeD false P.ks P.es P.ss), some (.int P.ks.length), none]) ?_ ?_
  · walk_at "vG"
    have bad : ¬ (P.ks ≠ [] ∧ P.es.length = P.ks.length ∧ P.ss.length = P.ks.length ∧ P.nm.length = P.ks.length) → ¬ lkN P := fun h k => h ⟨fun e => (by have := k.2.2.2.one; rw [k.1, e] at this; simp at this), k.1, k.2.1, k.2.2.1⟩
    exact ⟨fun h => ⟨_, rfl, qx (bad fun z => z.1 (List.eq_nil_of_length_eq_zero (by omega)))⟩, fun h1 => ⟨fun h => ⟨_, rfl, qx (bad fun z => h (by omega))⟩, fun h2 => ⟨fun h => ⟨_, rfl, qx (bad fun z => h (by omega))⟩, fun h3 => ⟨fun h => ⟨_, rfl, qx (bad fun z => h (by omega))⟩, fun h4 => ⟨fun e => h1 (by rw [e]; rfl), by omega, by omega, by omega⟩⟩⟩⟩⟩
  rintro _ ⟨⟨hne, l1, l2, l3⟩, rfl⟩
  have one : 1 ≤ P.ks.length := Nat.pos_of_ne_zero fun e => hne (List.eq_nil_of_length_eq_zero e)
  refine sq_i ?_
  walk_at "vG"
  refine ix_el (by omega) (by omega) ?_
  walk_at "vG"
  refine ⟨fun h => ⟨_, rfl, qx fun k => h k.2.2.2.root⟩, fun hroot => ?_⟩
  have tk : ∀ k : Nat, k ≤ P.es.length → P.es = P.es.take k ++ P.es.drop k := fun k _ => (List.take_append_drop k P.es).symm
  refine for_rng2 (lo := 1) (j := (P.ks.length : Int)) (fun Q q => by walk_at "vx"; exact q) (by omega) (by omega) (by omega) (by omega)
    (fun k env => okTree (P.es.take k.toNat) ∧ ∃ o, env = [some (chG false P), some (treeD false P.ks P.es P.ss), some (.int P.ks.length), o]) ⟨?_, _, rfl⟩ ?_ ?_
  · have e : P.es.take (1 : Int).toNat = [-1] := by
      cases he : P.es with
      | nil => rw [he] at l1; simp at l1; omega
      | cons x xs =>
        rw [he] at hroot
        have hroot : x = -1 := hroot
        rw [hroot]; rfl
    rw [e]; exact okTree_start
  · rintro k _ k1 k2 ⟨ok, o, rfl⟩
    have lt : (P.es.take k.toNat).length = k.toNat := by rw [List.length_take]; omega
    have hsp := tk k.toNat (by omega)
    have hk1 : k.toNat < P.es.length := by omega
    have hx : elD P.es k = P.es[k.toNat] := by
      unfold elD
      rw [List.getD_eq_getElem?_getD, List.getElem?_eq_getElem hk1]; rfl
    have e1 : P.es.take (k + 1).toNat = P.es.take k.toNat ++ [elD P.es k] := by
      rw [show (k + 1).toNat = k.toNat + 1 by omega, List.take_add_one, List.getElem?_eq_getElem hk1, hx]; rfl
    have ab : aboveM P.es (k - 1) = aboveM (P.es.take k.toNat) (k - 1) := by
      conv => lhs; rw [hsp]
      exact aboveM_pre ok.ok _ (by omega) (by omega)
    refine sq_cut (fun env => (elD P.es k = k - 1 ∨ elD P.es k ∈ aboveM (P.es.take k.toNat) (k - 1)) ∧ env = [some (chG false P), some (treeD false P.ks P.es P.ss), some (.int P.ks.length), some (.int k)]) ?_ ?_
    · walk_at "vG"
      refine ix_el (by omega) (by omega) ?_
      walk_at "vG"
      refine ⟨fun hne => ix_el (by omega) (by omega) ?_, fun e => .inl (by omega)⟩
      refine ⟨false, P.ks, P.es.take k.toNat, P.es.drop k.toNat, P.ss, k - 1, by rw [← hsp], ok.ok, by omega, by rw [← hsp]; omega, by omega, by omega, ?_⟩
      walk_at "vG"
      rw [any_ints, flat_ints]
      refine ⟨rfl, fun h => ⟨_, rfl, qx fun kk => ?_⟩, fun h => .inr (of_decide_eq_true h)⟩
      have pr := kk.2.2.2.pre (k - 1).toNat (by omega)
      rw [show (((k - 1).toNat + 1 : Nat) : Int) = k by omega, show (((k - 1).toNat : Nat) : Int) = k - 1 by omega, ab] at pr
      rcases List.mem_cons.mp pr with e | m
      · exact hne (by omega)
      · exact of_decide_eq_false h m
    · rintro _ ⟨hup, rfl⟩
      have hxb : 0 ≤ elD P.es k ∧ elD P.es k < (P.es.take k.toNat).length := by
        rcases hup with e | m
        · omega
        · have := aboveM_mem ok.ok (by omega) (by omega) m
          omega
      have hc : elD P.es k ∈ (((P.es.take k.toNat).length : Int) - 1) :: aboveM (P.es.take k.toNat) (((P.es.take k.toNat).length : Int) - 1) := by
        rw [show (((P.es.take k.toNat).length : Int) - 1) = k - 1 by omega]
        rcases hup with e | m
        · exact List.mem_cons.mpr (.inl e)
        · exact List.mem_cons_of_mem _ m
      have oke := okE_snoc ok.ok (x := elD P.es k) (by omega) (by omega)
      have hel : elD (P.es.take k.toNat ++ [elD P.es k]) k = elD P.es k := by
        rw [← e1]
        unfold elD
        rw [List.getD_eq_getElem?_getD, List.getD_eq_getElem?_getD, List.getElem?_take_of_lt (by omega)]
      have la : aboveM (P.es.take k.toNat ++ [elD P.es k]) k = upM (P.es.take k.toNat) (elD P.es k) := by
        unfold aboveM
        rw [hel]
        exact upM_app ok.ok _ (by omega) (by omega)
      have lap : (P.es.take k.toNat ++ [elD P.es k]).length = k.toNat + 1 := by rw [List.length_append, lt]; rfl
      have hsp1 := tk (k + 1).toNat (by omega)
      walk_at "vG"
      refine ⟨false, P.ks, P.es.take k.toNat ++ [elD P.es k], P.es.drop (k + 1).toNat, P.ss, k, by rw [← e1, ← hsp1], oke, by omega, by rw [← e1, ← hsp1]; omega, by omega, by omega, ?_⟩
      walk_at "vG"
      rw [la, e1]
      refine ⟨fun h => ⟨_, rfl, qx fun kk => ?_⟩, fun h => ⟨okTree.grow ok (by omega) hc (by omega), _, rfl⟩⟩
      have dp := kk.2.2.2.deep k.toNat hk1
      rw [show ((k.toNat : Nat) : Int) = k by omega] at dp
      have : aboveM P.es k = aboveM (P.es.take k.toNat ++ [elD P.es k]) k := by
        conv => lhs; rw [hsp1, e1]
        exact aboveM_pre oke _ (by omega) (by omega)
      rw [this, la] at dp
      omega
  · rintro _ ⟨ok, o, rfl⟩
    rw [if_pos (by omega), show ((P.ks.length : Int)).toNat = P.es.length by omega, List.take_length] at ok
    exact ⟨_, rfl, q ⟨l1, l2, l3, ok⟩⟩
-- needs: m_tree
def sp_inner : SpD := fun ds Q => ∃ m ks es ss k, ds = [treeD m ks es ss, .int k] ∧ es.length ≤ 150 ∧ Q (lI true (innerM es k))
theorem len_inner : ∀ ds Q, sp_inner ds Q → ds.length = 2 := by rintro _ _ ⟨_, _, _, _, _, rfl, _⟩; rfl
theorem d_inner : ∀ ds Q, sp_inner ds Q → w_inner { nx := fun _ => Q .non, rt := fun d _ => Q d } (env0 3 ds) := by
  rintro _ Q ⟨m, ks, es, ss, k, rfl, hl, q⟩
  unfold w_inner
  unfold ret_
  refine lc_rng1p (j := (es.length : Int)) (fun Q q => by walk_at "vt"; exact q) (by omega) (by omega) (fun j => decide (elD es (j : Nat) = k)) (fun j => .int (j : Nat)) (fun j hj => ?_) (fun j _ _ => ?_) ?_
  · walk_at "vt"
    refine ix_lN (by omega) ?_
    walk_at "vx"
    rfl
  · walk_at "vx"
  · rw [show ((es.length : Int)).toNat = es.length by omega]
    unfold innerM lI at q
    rw [List.map_map] at q
    exact q
-- needs: m_raw inner
def sp_look_at_kindsX : SpG := fun ds QD QX => ∃ ks es ss, ds = [treeD false ks es ss] ∧ es.length = ks.length ∧ ss.length = ks.length ∧ ks.length ≤ 150 ∧ (okKs es ks → okCh es ks ss → QD .non [treeD false ks es ss]) ∧ (¬ (okKs es ks ∧ okCh es ks ss) → QX ⟨"BadTree", none⟩ [treeD false ks es ss])
theorem len_look_at_kindsX : ∀ ds QD QX, sp_look_at_kindsX ds QD QX → ds.length = 1 := by rintro _ _ _ ⟨_, _, _, rfl, _⟩; rfl
theorem u_look_at_kindsX {ks : List Str} {es ss : List Int} {QD : D → List D → Prop} {QX : XC → List D → Prop} (h1 : es.length = ks.length) (h2 : ss.length = ks.length) (h3 : ks.length ≤ 150) (q : okKs es ks → okCh es ks ss → QD .non [treeD false ks es ss]) (qx : ¬ (okKs es ks ∧ okCh es ks ss) → QX ⟨"BadTree", none⟩ [treeD false ks es ss]) : sp_look_at_kindsX [treeD false ks es ss] QD QX := ⟨ks, es, ss, rfl, h1, h2, h3, q, qx⟩
theorem d_look_at_kindsX : ∀ ds QD QX, sp_look_at_kindsX ds QD QX → w_look_at_kindsX sp_inner { nx := fun env => ∃ ds', backD [] env 0 ds = some ds' ∧ QD .non ds', rt := fun d env => ∃ ds', backD [] env 0 ds = some ds' ∧ QD d ds', ex := fun xc env => ∃ ds', backD [] env 0 ds = some ds' ∧ QX xc ds' } (env0 5 ds) := by
  rintro _ QD QX ⟨ks, es, ss, rfl, l1, l2, h3, q, qx⟩
  have n1 : ¬ (("leaf" : Str) = "one") := by decide +kernel
  have n2 : ¬ (("all" : Str) = "one") := by decide +kernel
  have n3 : ¬ (("all" : Str) = "leaf") := by decide +kernel
  have n4 : ¬ (("one" : Str) = "leaf") := by decide +kernel
  unfold w_look_at_kindsX
  refine for_rng1 (j := (ks.length : Int)) (fun Q q => by walk_at "vt"; exact q) (by omega) (by omega)
    (fun n env => (∀ k : Nat, k < n → ((innerM es k = [] ∧ kdM ks k = "leaf") ∨ (innerM es k ≠ [] ∧ (kdM ks k = "all" ∨ kdM ks k = "one"))) ∧ ((kdM ks k = "one" → elD ss k ∈ innerM es k) ∧ (kdM ks k ≠ "one" → elD ss k = -1))) ∧ ∃ o1 o2 o3 o4, env = [some (treeD false ks es ss), o1, o2, o3, o4]) ⟨fun _ h => absurd h (by omega), _, _, _, _, rfl⟩ ?_ ?_
  · rintro k _ hk ⟨hpre, o1, o2, o3, o4, rfl⟩
    refine sq_i ?_
    walk_at "vt"
    refine ⟨false, ks, es, ss, k, rfl, by omega, ?_⟩
    walk_at "wx"
    refine sq_i ?_
    walk_at "vt"
    refine ix_kd (by omega) ⟨rfl, ?_⟩
    refine sq_i ?_
    walk_at "vt"
    refine ix_el (by omega) (by omega) ⟨rfl, ?_⟩
    have nxt : (((innerM es k = [] ∧ kdM ks k = "leaf") ∨ (innerM es k ≠ [] ∧ (kdM ks k = "all" ∨ kdM ks k = "one"))) ∧ ((kdM ks k = "one" → elD ss k ∈ innerM es k) ∧ (kdM ks k ≠ "one" → elD ss k = -1))) → ∀ j : Nat, j < k + 1 → ((innerM es j = [] ∧ kdM ks j = "leaf") ∨ (innerM es j ≠ [] ∧ (kdM ks j = "all" ∨ kdM ks j = "one"))) ∧ ((kdM ks j = "one" → elD ss j ∈ innerM es j) ∧ (kdM ks j ≠ "one" → elD ss j = -1)) := fun h j hj => by
      by_cases e : j = k
      · subst e; exact h
      · exact hpre j (by omega)
    have bad1 : ¬ (((innerM es k = [] ∧ kdM ks k = "leaf") ∨ (innerM es k ≠ [] ∧ (kdM ks k = "all" ∨ kdM ks k = "one"))) ∧ ((kdM ks k = "one" → elD ss k ∈ innerM es k) ∧ (kdM ks k ≠ "one" → elD ss k = -1))) → QX ⟨"BadTree", none⟩ [treeD false ks es ss] := fun h => qx fun z => h ⟨z.1.2 k (by omega), z.2.2 k (by omega)⟩
    generalize innerM es (k : Int) = near at nxt bad1 ⊢
    generalize kdM ks (k : Int) = kd at nxt bad1 ⊢
    generalize elD ss (k : Int) = st at nxt bad1 ⊢
    refine sq_cut (fun env => (kd = "leaf" ∨ kd = "one" ∨ kd = "all") ∧ env = [some (treeD false ks es ss), some (.int k), some (lI true near), some (.str kd), some (.int st)]) ?_ ?_
    · walk_at "vx"
      have hm : ([D.str "leaf", D.str "one", D.str "all"].any fun d => deq d (D.str kd)) = decide (kd ∈ (["leaf", "one", "all"] : List Str)) := m_strs ["leaf", "one", "all"] kd
      rw [hm]
      refine ⟨rfl, fun z => ⟨_, rfl, bad1 fun h => of_decide_eq_false z ?_⟩, fun z => ?_⟩
      · rcases h.1 with ⟨_, e⟩ | ⟨_, e | e⟩ <;> rw [e] <;> decide +kernel
      · have := of_decide_eq_true z
        simpa using this
    rintro _ ⟨hk2, rfl⟩
    have hd : deq (.lst true (near.map .int)) (.lst true []) = decide (near = []) := deq_lI true true near []
    refine sq_cut (fun env => ((near = [] ∧ kd = "leaf") ∨ (near ≠ [] ∧ (kd = "all" ∨ kd = "one"))) ∧ env = [some (treeD false ks es ss), some (.int k), some (lI true near), some (.str kd), some (.int st)]) ?_ ?_
    · walk_at "vx"
      rw [show lI true near = .lst true (near.map .int) from rfl, hd]
      refine ⟨⟨eqOk_lI true near 59, eqOk_lI true [] 59⟩, fun z => ⟨_, rfl, bad1 fun h => z ?_⟩, fun z => ?_⟩
      · rcases h.1 with ⟨e1, e⟩ | ⟨e1, e | e⟩
        · rw [decide_eq_true e, decide_eq_true e1]
        · rw [decide_eq_false (show ¬ kd = "leaf" by rw [e]; exact n3), decide_eq_false e1]
        · rw [decide_eq_false (show ¬ kd = "leaf" by rw [e]; exact n4), decide_eq_false e1]
      · by_cases e1 : near = []
        · rw [decide_eq_true e1] at z
          exact .inl ⟨e1, of_decide_eq_true z⟩
        · rw [decide_eq_false e1] at z
          have := of_decide_eq_false z
          rcases hk2 with e | e | e
          · exact absurd e this
          · exact .inr ⟨e1, .inr e⟩
          · exact .inr ⟨e1, .inl e⟩
    rintro _ ⟨hkk, rfl⟩
    walk_at "vx"
    rw [any_ints, flat_ints]
    refine ⟨fun one => ⟨rfl, fun z => ⟨_, rfl, bad1 fun h => of_decide_eq_false z (h.2.1 one)⟩, fun z => ⟨fun h => absurd one h, fun _ => ⟨nxt ⟨hkk, fun _ => of_decide_eq_true z, fun h => absurd one h⟩, _, _, _, _, rfl⟩⟩⟩, fun none_ => ⟨fun _ => ⟨fun z => ⟨_, rfl, bad1 fun h => z (h.2.2 none_)⟩, fun z => ⟨nxt ⟨hkk, fun h => absurd h none_, fun _ => z⟩, _, _, _, _, rfl⟩⟩, fun h => absurd h none_⟩⟩
  · rintro _ ⟨hall, o1, o2, o3, o4, rfl⟩
    refine ⟨_, rfl, q ⟨l1.symm, fun k hk => (hall k (by omega)).1⟩ ⟨by omega, fun k hk => (hall k (by omega)).2⟩⟩
theorem hasK_strs (pre : List Str) (s : Str) : hasK (pre.map Sum.inr) (Sum.inr s) = decide (s ∈ pre) := by
  unfold hasK
  by_cases h : s ∈ pre
  · rw [decide_eq_true h, List.any_eq_true]
    exact ⟨Sum.inr s, List.mem_map.mpr ⟨s, h, rfl⟩, decide_eq_true rfl⟩
  · rw [decide_eq_false h, List.any_eq_false]
    intro x m e
    obtain ⟨y, hy, rfl⟩ := List.mem_map.mp m
    have := of_decide_eq_true e
    injection this with this
    exact h (this ▸ hy)
-- needs: m_raw m_strsK is_name
def sp_look_at_namesX : SpG := fun ds QD QX => ∃ P, ds = [chG false P] ∧ fPG P ∧ (lkM P → QD .non [chG false P]) ∧ (¬ lkM P → QX ⟨"BadName", none⟩ [chG false P])
theorem len_look_at_namesX : ∀ ds QD QX, sp_look_at_namesX ds QD QX → ds.length = 1 := by rintro _ _ _ ⟨_, rfl, _⟩; rfl
theorem u_look_at_namesX {P : PG} {QD : D → List D → Prop} {QX : XC → List D → Prop} (h : fPG P) (q : lkM P → QD .non [chG false P]) (qx : ¬ lkM P → QX ⟨"BadName", none⟩ [chG false P]) : sp_look_at_namesX [chG false P] QD QX := ⟨P, rfl, h, q, qx⟩
theorem d_look_at_namesX : ∀ ds QD QX, sp_look_at_namesX ds QD QX → w_look_at_namesX sp_is_name { nx := fun env => ∃ ds', backD [] env 0 ds = some ds' ∧ QD .non ds', rt := fun d env => ∃ ds', backD [] env 0 ds = some ds' ∧ QD d ds', ex := fun xc env => ∃ ds', backD [] env 0 ds = some ds' ∧ QX xc ds' } (env0 3 ds) := by
  rintro _ QD QX ⟨P, rfl, f, q, qx⟩
  unfold w_look_at_namesX
  refine sq_i ?_
  walk_at "vx"
  refine for_pre D.str (xs := P.nm) (fun Q q => by walk_at "vG"; rw [frzL_str]; exact ⟨noOwnL_str _, q⟩) (fun pre env => ((∀ s ∈ pre, isNameM s = true) ∧ pre.Nodup) ∧ ∃ (vs : List D) (o : Option D), env = [some (chG false P), some (.dic true (pre.map Sum.inr) vs), o] ∧ vs.length = pre.length) ⟨⟨fun _ h => absurd h List.not_mem_nil, List.nodup_nil⟩, [], _, rfl, rfl⟩ ?_ ?_
  · rintro pre s post _ e ⟨⟨a1, a2⟩, vs, o, rfl, hl⟩
    have ms : s ∈ P.nm := by rw [e]; simp
    have bad1 : isNameM s = false → QX ⟨"BadName", none⟩ [chG false P] := fun h => qx fun z => (by have := z.1 s ms; rw [h] at this; cases this)
    have bad2 : s ∈ pre → QX ⟨"BadName", none⟩ [chG false P] := fun h => qx fun z => by
      have hd := z.2
      rw [e] at hd
      exact (List.nodup_append.mp hd).2.2 s h s List.mem_cons_self rfl
    refine sq_cut (fun env => (isNameM s = true ∧ s ∉ pre) ∧ env = [some (chG false P), some (.dic true (pre.map Sum.inr) vs), some (.str s)]) ?_ ?_
    · walk_at "vx"
      refine u_is_name (f.nm s ms) ?_
      walk_at "wx"
      rw [hasK_strs]
      exact ⟨fun h => ⟨_, rfl, bad1 h⟩, fun h1 => ⟨fun h => ⟨_, rfl, bad2 (of_decide_eq_true h)⟩, fun h => ⟨h1, of_decide_eq_false h⟩⟩⟩
    rintro _ ⟨⟨hn, hs⟩, rfl⟩
    have hpl : pre.length ≤ 150 := by
      have h1 := f.nl
      rw [e, List.length_append, List.length_cons] at h1
      omega
    walk_at "vx"
    refine ⟨_, _, rfl, by omega, fun _ => ⟨⟨fun x m => ?_, ?_⟩, _, _, by rw [List.map_append]; rfl, by rw [List.length_append, List.length_append, hl]; rfl⟩, fun z => absurd z (by rw [hasK_strs, decide_eq_false hs]; decide)⟩
    · rcases List.mem_append.mp m with m | m
      · exact a1 x m
      · rw [List.mem_singleton.mp m]; exact hn
    · exact List.nodup_append.mpr ⟨a2, by simp, fun x mx y my ee => hs (by rw [List.mem_singleton.mp my] at ee; rwa [ee] at mx)⟩
  · rintro _ ⟨a, vs, o, rfl, hl⟩
    exact ⟨_, rfl, q a⟩
-- needs: m_raw
def sp_in_boundsG : SpD := fun ds Q => ∃ x, ds = [.int x] ∧ Q (.bl (nbB x))
theorem len_in_boundsG : ∀ ds Q, sp_in_boundsG ds Q → ds.length = 1 := by rintro _ _ ⟨_, rfl, _⟩; rfl
theorem u_in_boundsG {x : Int} {Q : D → Prop} (q : Q (.bl (nbB x))) : sp_in_boundsG [.int x] Q := ⟨x, rfl, q⟩
theorem d_in_boundsG : ∀ ds Q, sp_in_boundsG ds Q → w_in_boundsG { nx := fun _ => Q .non, rt := fun d _ => Q d } (env0 1 ds) := by
  rintro _ Q ⟨x, rfl, q⟩
  unfold nbB at q
  unfold w_in_boundsG
  walk_at "vx"
  refine ⟨fun h => ?_, fun h => ?_⟩
  · rw [decide_eq_true h, Bool.true_and] at q; exact q
  · rw [decide_eq_false h, Bool.false_and] at q; exact q
-- needs: m_raw m_strsK is_name in_boundsG
def sp_look_at_boxesX : SpG := fun ds QD QX => ∃ P, ds = [chG false P] ∧ fPG P ∧ (lkX P → QD .non [chG false P]) ∧ (¬ lkX P → QX ⟨"BadBox", none⟩ [chG false P])
theorem len_look_at_boxesX : ∀ ds QD QX, sp_look_at_boxesX ds QD QX → ds.length = 1 := by rintro _ _ _ ⟨_, rfl, _⟩; rfl
theorem u_look_at_boxesX {P : PG} {QD : D → List D → Prop} {QX : XC → List D → Prop} (h : fPG P) (q : lkX P → QD .non [chG false P]) (qx : ¬ lkX P → QX ⟨"BadBox", none⟩ [chG false P]) : sp_look_at_boxesX [chG false P] QD QX := ⟨P, rfl, h, q, qx⟩
theorem d_look_at_boxesX : ∀ ds QD QX, sp_look_at_boxesX ds QD QX → w_look_at_boxesX sp_is_name sp_in_boundsG { nx := fun env => ∃ ds', backD [] env 0 ds = some ds' ∧ QD .non ds', rt := fun d env => ∃ ds', backD [] env 0 ds = some ds' ∧ QD d ds', ex := fun xc env => ∃ ds', backD [] env 0 ds = some ds' ∧ QX xc ds' } (env0 3 ds) := by
  rintro _ QD QX ⟨P, rfl, f, q, qx⟩
  unfold w_look_at_boxesX
  refine sq_i ?_
  walk_at "vx"
  refine for_pre bxP (xs := P.bx) (fun Q q => by walk_at "vG"; rw [frzL_bxP]; exact ⟨noOwnL_map bxP noOwn_bxP _, q⟩) (fun pre env => ((∀ b ∈ pre, isNameM b.1 = true ∧ nbB b.2 = true) ∧ (pre.map Prod.fst).Nodup) ∧ ∃ (vs : List D) (o : Option D), env = [some (chG false P), some (.dic true ((pre.map Prod.fst).map Sum.inr) vs), o] ∧ vs.length = pre.length) ⟨⟨fun _ h => absurd h List.not_mem_nil, List.nodup_nil⟩, [], _, rfl, rfl⟩ ?_ ?_
  · rintro pre b post _ e ⟨⟨a1, a2⟩, vs, o, rfl, hl⟩
    have ms : b ∈ P.bx := by rw [e]; simp
    have bad1 : ¬ (isNameM b.1 = true ∧ nbB b.2 = true) → QX ⟨"BadBox", none⟩ [chG false P] := fun h => qx fun z => h (z.1 b ms)
    have bad2 : b.1 ∈ pre.map Prod.fst → QX ⟨"BadBox", none⟩ [chG false P] := fun h => qx fun z => by
      have hd := z.2
      rw [e, List.map_append, List.map_cons] at hd
      exact (List.nodup_append.mp hd).2.2 b.1 h b.1 List.mem_cons_self rfl
    have hpl : pre.length ≤ 150 := by
      have h1 := f.bl
      rw [e, List.length_append, List.length_cons] at h1
      omega
    refine sq_cut (fun env => ((isNameM b.1 = true ∧ nbB b.2 = true) ∧ b.1 ∉ pre.map Prod.fst) ∧ env = [some (chG false P), some (.dic true ((pre.map Prod.fst).map Sum.inr) vs), some (bxP b)]) ?_ ?_
    · unfold bxP
      walk_at "vx"
      refine u_is_name (f.bx b ms) ?_
      walk_at "wx"
      have hk : hasK (List.map (Sum.inr ∘ Prod.fst) pre) (Sum.inr b.1) = decide (b.1 ∈ pre.map Prod.fst) := by rw [← List.map_map, hasK_strs]
      rw [hk]
      refine ⟨fun h => ⟨_, rfl, bad1 fun z => (by rw [h] at z; cases z.1)⟩, fun h1 => ⟨fun h => ⟨_, rfl, bad2 (of_decide_eq_true h)⟩, fun h2 => u_in_boundsG ?_⟩⟩
      walk_at "wx"
      exact ⟨fun h => ⟨_, rfl, bad1 fun z => (by rw [h] at z; cases z.2)⟩, fun h3 => ⟨⟨h1, h3⟩, of_decide_eq_false h2⟩⟩
    rintro _ ⟨⟨hn, hs⟩, rfl⟩
    unfold bxP
    walk_at "vx"
    refine ⟨_, _, rfl, by omega, fun _ => ⟨⟨fun x m => ?_, ?_⟩, _, _, by rw [List.map_append]; rfl, by rw [List.length_append, List.length_append, hl]; rfl⟩, fun z => absurd z ?_⟩
    · rcases List.mem_append.mp m with m | m
      · exact a1 x m
      · rw [List.mem_singleton.mp m]; exact hn
    · rw [List.map_append]
      exact List.nodup_append.mpr ⟨a2, by simp, fun x mx y my ee => hs (by rw [List.map_cons, List.map_nil, List.mem_singleton] at my; rw [my] at ee; rwa [ee] at mx)⟩
    · rw [← List.map_map, hasK_strs, decide_eq_false hs]; decide
  · rintro _ ⟨a, vs, o, rfl, hl⟩
    exact ⟨_, rfl, q a⟩
-- needs: m_raw in_boundsG
def sp_right_termG : SpD := fun ds Q => ∃ (P : PG) (t : Int × Int), ds = [chG false P, tD t.1 t.2] ∧ Q (.bl (rtB P.bx.length t))
theorem len_right_termG : ∀ ds Q, sp_right_termG ds Q → ds.length = 2 := by rintro _ _ ⟨_, _, rfl, _⟩; rfl
theorem u_right_termG {P : PG} {t : Int × Int} {Q : D → Prop} (q : Q (.bl (rtB P.bx.length t))) : sp_right_termG [chG false P, tD t.1 t.2] Q := ⟨P, t, rfl, q⟩
theorem d_right_termG : ∀ ds Q, sp_right_termG ds Q → w_right_termG sp_in_boundsG { nx := fun _ => Q .non, rt := fun d _ => Q d } (env0 2 ds) := by
  rintro _ Q ⟨P, t, rfl, q⟩
  unfold w_right_termG tD
  unfold rtB at q
  walk_at "vG"
  refine ⟨fun h1 => ⟨fun h2 => u_in_boundsG ⟨rfl, ?_⟩, fun h2 => ?_⟩, fun h1 => ?_⟩
  · rw [decide_eq_true h1, decide_eq_true h2] at q; exact q
  · rw [decide_eq_true h1, decide_eq_false h2] at q; exact q
  · rw [decide_eq_false h1] at q; exact q
-- needs: m_raw right_termG is_name
theorem sPutG : ¬ (("say" : Str) = "put") ∧ ¬ (("call" : Str) = "put") ∧ ¬ (("say" : Str) = "call") ∧ ¬ (("put" : Str) = "call") := by decide +kernel
def sp_right_deedG : SpD := fun ds Q => ∃ P d, ds = [chG false P, gdD d] ∧ fGD d ∧ Q (.bl (rdB P.bx.length d))
theorem len_right_deedG : ∀ ds Q, sp_right_deedG ds Q → ds.length = 2 := by rintro _ _ ⟨_, _, rfl, _⟩; rfl
theorem u_right_deedG {P : PG} {d : GDeed} {Q : D → Prop} (h : fGD d) (q : Q (.bl (rdB P.bx.length d))) : sp_right_deedG [chG false P, gdD d] Q := ⟨P, d, rfl, h, q⟩
theorem d_right_deedG : ∀ ds Q, sp_right_deedG ds Q → w_right_deedG sp_right_termG sp_is_name { nx := fun _ => Q .non, rt := fun d _ => Q d } (env0 2 ds) := by
  rintro _ Q ⟨P, d, rfl, h, q⟩
  obtain ⟨s1, s2, s3, s4⟩ := sPutG
  unfold w_right_deedG
  cases d with
  | put b t =>
    unfold gdD
    have q : Q (.bl (decide (0 ≤ b) && (decide (b < (P.bx.length : Int)) && rtB P.bx.length t))) := q
    refine sq_i ?_
    walk_at "vG"
    refine ⟨fun h1 => ⟨fun h2 => u_right_termG ⟨.inl rfl, rfl, ?_⟩, fun h2 => ?_⟩, fun h1 => ?_⟩
    · rw [decide_eq_true h1, decide_eq_true h2] at q; exact q
    · rw [decide_eq_true h1, decide_eq_false h2] at q; exact q
    · rw [decide_eq_false h1] at q; exact q
  | call s =>
    unfold gdD
    refine sq_i ?_
    walk_at "vx"
    refine ⟨fun z => absurd z s2, fun _ => ?_⟩
    refine sq_i ?_
    walk_at "vx"
    exact u_is_name h q
  | three k s t =>
    obtain ⟨k1, k2, k3⟩ := h
    unfold gdD
    have q : Q (.bl (decide (k = "say") && (isNameM s && rtB P.bx.length t))) := q
    refine sq_i ?_
    walk_at "vx"
    refine ⟨fun z => absurd z k1, fun _ => ?_⟩
    refine sq_i ?_
    walk_at "vx"
    refine ⟨fun z => absurd z k2, fun _ => ?_⟩
    walk_at "vG"
    refine ⟨fun h1 => u_is_name k3 ?_, fun h1 => ?_⟩
    · rw [decide_eq_true h1, Bool.true_and] at q
      refine ⟨fun h2 => u_right_termG ⟨.inl rfl, rfl, ?_⟩, fun h2 => ?_⟩
      · rw [h2, Bool.true_and] at q; exact q
      · rw [h2, Bool.false_and] at q; exact q
    · rw [decide_eq_false h1, Bool.false_and] at q; exact q
theorem noOwnL_append {xs ys : List D} (h1 : noOwnL xs = true) (h2 : noOwnL ys = true) : noOwnL (xs ++ ys) = true := by
  rw [noOwnL_all] at *
  rw [List.all_append, h1, h2]; rfl
theorem lc_allD {α : Type} {i : Nat} {ti : TAD} {te : TED} {env : Env} {Q : D → Prop} {xs : List α} (c : α → D) (g : D → D) (hu : ∀ Q : List D → Prop, Q (xs.map c) → ti env Q)
    (h : ∀ a ∈ xs, te (env.set i (some (c a))) fun y => y = g (c a)) (hl : xs.length ≤ 16777216) (q : Q (.lst true (xs.map fun a => g (c a)))) : lc_ i ti yes_ te env Q := by
  refine hu _ ⟨fun _ => true, g, fun d m => rfl, fun d m => ?_, ?_, ?_⟩
  · obtain ⟨a, ha, rfl⟩ := List.mem_map.mp m
    exact fun _ => h a ha
  · rw [List.length_map]; exact hl
  · rw [List.filter_eq_self.mpr fun _ _ => rfl, List.map_map]; exact q
-- needs: m_raw right_deedG m_lcallD
def gdsOfW : D → D
  | .tup xs => xs.getD 3 .non
  | _ => .non
def sp_look_at_deedsX : SpG := fun ds QD QX => ∃ P, ds = [chG false P] ∧ fPG P ∧ (lkD P → QD .non [chG false P]) ∧ (¬ lkD P → QX ⟨"BadDeed", none⟩ [chG false P])
theorem len_look_at_deedsX : ∀ ds QD QX, sp_look_at_deedsX ds QD QX → ds.length = 1 := by rintro _ _ _ ⟨_, rfl, _⟩; rfl
theorem u_look_at_deedsX {P : PG} {QD : D → List D → Prop} {QX : XC → List D → Prop} (h : fPG P) (q : lkD P → QD .non [chG false P]) (qx : ¬ lkD P → QX ⟨"BadDeed", none⟩ [chG false P]) : sp_look_at_deedsX [chG false P] QD QX := ⟨P, rfl, h, q, qx⟩
theorem d_look_at_deedsX : ∀ ds QD QX, sp_look_at_deedsX ds QD QX → w_look_at_deedsX sp_right_deedG { nx := fun env => ∃ ds', backD [] env 0 ds = some ds' ∧ QD .non ds', rt := fun d env => ∃ ds', backD [] env 0 ds = some ds' ∧ QD d ds', ex := fun xc env => ∃ ds', backD [] env 0 ds = some ds' ∧ QX xc ds' } (env0 6 ds) := by
  rintro _ QD QX ⟨P, rfl, f, q, qx⟩
  have l2 := f.il
  have l3 := f.ol
  have l5 := f.wl
  unfold w_look_at_deedsX
  refine sq_i ?_
  walk_at "vG"
  refine sq_cut (fun env => (P.ins.length = P.nm.length ∧ P.outs.length = P.nm.length) ∧ env = [some (chG false P), some (.int P.nm.length), none, none, none, none]) ?_ ?_
  · walk_at "vG"
    exact ⟨fun h => ⟨_, rfl, qx fun z => h (by have := z.1; omega)⟩, fun h1 => ⟨fun h => ⟨_, rfl, qx fun z => h (by have := z.2.1; omega)⟩, fun h2 => ⟨by omega, by omega⟩⟩⟩
  rintro _ ⟨⟨e1, e2⟩, rfl⟩
  refine sq_i ?_
  walk_at "vG"
  refine ⟨noOwnL_map gdsD noOwn_gds _, noOwnL_map gdsD noOwn_gds _, by omega, ?_⟩
  refine lc_allD gwD gdsOfW (fun Q q => by walk_at "vG"; rw [frzL_gw]; exact ⟨noOwnL_map gwD noOwn_gw _, q⟩) (fun w hw => ?_) (by omega) ?_
  · unfold gwD
    walk_at "vx"
    exact ⟨noOwn_gds _, rfl⟩
  have emap : (P.ways.map fun w => gdsOfW (gwD w)) = (P.ways.map GWay.deeds).map gdsD := by rw [List.map_map]; rfl
  refine ⟨noOwnL_append (noOwnL_map gdsD noOwn_gds _) (noOwnL_map gdsD noOwn_gds _), ?_, ?_, ?_⟩
  · rw [emap]; exact noOwnL_map gdsD noOwn_gds _
  · simp only [List.length_append, List.length_map]; omega
  dsimp only
  rw [show frz (.lst true (P.ins.map gdsD ++ P.outs.map gdsD ++ P.ways.map fun w => gdsOfW (gwD w))) = .lst false ((P.ins ++ P.outs ++ P.ways.map GWay.deeds).map gdsD) by
    rw [emap, ← List.map_append, ← List.map_append]
    show D.lst false (frzL _) = _
    rw [frzL_gds]]
  have hfm := f.ds
  have bad : ∀ ds ∈ P.ins ++ P.outs ++ P.ways.map GWay.deeds, ∀ d ∈ ds, rdB P.bx.length d = false → QX ⟨"BadDeed", none⟩ [chG false P] := fun ds m d hd h => qx fun z => by
    have := z.2.2 ds m d hd
    rw [h] at this; cases this
  have good : (∀ ds ∈ P.ins ++ P.outs ++ P.ways.map GWay.deeds, ∀ d ∈ ds, rdB P.bx.length d = true) → QD .non [chG false P] := fun h => q ⟨e1, e2, h⟩
  generalize P.ins ++ P.outs ++ P.ways.map GWay.deeds = rows at hfm bad good ⊢
  refine for_pre gdsD (xs := rows) (fun Q q => by walk_at "vx"; rw [frzL_gds]; exact ⟨noOwnL_map gdsD noOwn_gds _, q⟩) (fun pre env => (∀ ds ∈ pre, ∀ d ∈ ds, rdB P.bx.length d = true) ∧ ∃ o4 o5 : Option D, env = [some (chG false P), some (.int P.nm.length), some (.lst false (rows.map gdsD)), none, o4, o5]) ⟨fun _ h => absurd h List.not_mem_nil, _, _, rfl⟩ ?_ ?_
  · rintro pre ds post _ e ⟨hpre, o4, o5, rfl⟩
    have mds : ds ∈ rows := by rw [e]; simp
    have ef : frzL (ds.map gdD) = ds.map gdD := frzL_id _ (noOwnL_map gdD noOwn_gdD ds)
    rw [show gdsD ds = .tup (ds.map gdD) from rfl]
    walk_at "vx"
    rw [ef]
    refine for_pre gdD (xs := ds) (fun Q q => by walk_at "vx"; rw [ef]; exact ⟨noOwnL_map gdD noOwn_gdD ds, q⟩) (fun pre2 env => (∀ d ∈ pre2, rdB P.bx.length d = true) ∧ ∃ o5 : Option D, env = [some (chG false P), some (.int P.nm.length), some (.lst false (rows.map gdsD)), none, some (.tup (ds.map gdD)), o5]) ⟨fun _ h => absurd h List.not_mem_nil, _, rfl⟩ ?_ ?_
    · rintro pre2 d post2 _ e2 ⟨hp2, o5, rfl⟩
      have md : d ∈ ds := by rw [e2]; simp
      walk_at "vG"
      rw [frz_id _ (noOwn_gdD d)]
      refine u_right_deedG (hfm ds mds d md) ⟨.inl rfl, fun h => ⟨_, rfl, bad ds mds d md h⟩, fun h => ⟨fun x m => ?_, _, rfl⟩⟩
      rcases List.mem_append.mp m with m | m
      · exact hp2 x m
      · rw [List.mem_singleton.mp m]; exact h
    · rintro _ ⟨hp2, o5, rfl⟩
      refine ⟨fun x m => ?_, _, _, rfl⟩
      rcases List.mem_append.mp m with m | m
      · exact hpre x m
      · rw [List.mem_singleton.mp m]; exact hp2
  · rintro _ ⟨hpre, o4, o5, rfl⟩
    exact ⟨_, rfl, good hpre⟩
-- needs: m_raw right_termG
def sp_right_askG : SpD := fun ds Q => ∃ P a, ds = [chG false P, gaD a] ∧ fGA a ∧ Q (.bl (raB P.nm.length P.bx.length a))
theorem len_right_askG : ∀ ds Q, sp_right_askG ds Q → ds.length = 2 := by rintro _ _ ⟨_, _, rfl, _⟩; rfl
theorem u_right_askG {P : PG} {a : GAsk} {Q : D → Prop} (h : fGA a) (q : Q (.bl (raB P.nm.length P.bx.length a))) : sp_right_askG [chG false P, gaD a] Q := ⟨P, a, rfl, h, q⟩
theorem d_right_askG : ∀ ds Q, sp_right_askG ds Q → w_right_askG sp_right_termG { nx := fun _ => Q .non, rt := fun d _ => Q d } (env0 2 ds) := by
  rintro _ Q ⟨P, a, rfl, h, q⟩
  unfold w_right_askG
  cases a with
  | op b k =>
    have q : Q (.bl (decide (0 ≤ k) && decide (k < (P.nm.length : Int)))) := q
    have so : ¬ (("shut" : Str) = "open") := by decide +kernel
    have fin : (0 ≤ k → Q (.bl (decide (k < (P.nm.length : Int))))) ∧ (k < 0 → Q (.bl false)) := by
      refine ⟨fun h1 => ?_, fun h1 => ?_⟩
      · rw [decide_eq_true h1, Bool.true_and] at q; exact q
      · rw [decide_eq_false (show ¬ 0 ≤ k by omega), Bool.false_and] at q; exact q
    cases b
    · show sq_ _ _ _ (env0 2 [chG false P, .tup [.str "shut", .int k]])
      refine sq_i ?_
      walk_at "vG"
      exact ⟨fun z => absurd z so, fun _ => ⟨fun h1 => fin.1 h1, fun h1 => fin.2 (by omega)⟩⟩
    · show sq_ _ _ _ (env0 2 [chG false P, .tup [.str "open", .int k]])
      refine sq_i ?_
      walk_at "vG"
      exact ⟨fun h1 => fin.1 h1, fun h1 => fin.2 (by omega)⟩
  | nu mk x y =>
    obtain ⟨h1, h2⟩ := h
    unfold gaD
    have hm : ([D.str "<", D.str "<=", D.str "=", D.str "!="].any fun d => deq d (D.str mk)) = decide (mk ∈ marksL) := m_strs marksL mk
    have q : Q (.bl (decide (mk ∈ marksL) && (rtB P.bx.length x && rtB P.bx.length y))) := q
    refine sq_i ?_
    walk_at "vG"
    rw [hm]
    refine ⟨fun z => absurd z h1, fun _ => ⟨fun z => absurd z h2, fun _ => ⟨rfl, fun h3 => u_right_termG ⟨.inl rfl, fun h4 => u_right_termG ⟨.inl rfl, rfl, ?_⟩, fun h4 => ?_⟩, fun h3 => ?_⟩⟩⟩
    · rw [h3, h4] at q; exact q
    · rw [h3, h4] at q; exact q
    · rw [h3] at q; exact q
-- needs: m_raw right_askG is_name
def sp_look_at_waysX : SpG := fun ds QD QX => ∃ P, ds = [chG false P] ∧ fPG P ∧ (lkW P → QD .non [chG false P]) ∧ (¬ lkW P → QX ⟨"BadWay", none⟩ [chG false P])
theorem len_look_at_waysX : ∀ ds QD QX, sp_look_at_waysX ds QD QX → ds.length = 1 := by rintro _ _ _ ⟨_, rfl, _⟩; rfl
theorem u_look_at_waysX {P : PG} {QD : D → List D → Prop} {QX : XC → List D → Prop} (h : fPG P) (q : lkW P → QD .non [chG false P]) (qx : ¬ lkW P → QX ⟨"BadWay", none⟩ [chG false P]) : sp_look_at_waysX [chG false P] QD QX := ⟨P, rfl, h, q, qx⟩
theorem d_look_at_waysX : ∀ ds QD QX, sp_look_at_waysX ds QD QX → w_look_at_waysX sp_is_name sp_right_askG { nx := fun env => ∃ ds', backD [] env 0 ds = some ds' ∧ QD .non ds', rt := fun d env => ∃ ds', backD [] env 0 ds = some ds' ∧ QD d ds', ex := fun xc env => ∃ ds', backD [] env 0 ds = some ds' ∧ QX xc ds' } (env0 5 ds) := by
  rintro _ QD QX ⟨P, rfl, f, q, qx⟩
  unfold w_look_at_waysX
  refine sq_i ?_
  walk_at "vG"
  refine sq_i ?_
  walk_at "vx"
  refine for_pre gwD (xs := P.ways) (fun Q q => by walk_at "vG"; rw [frzL_gw]; exact ⟨noOwnL_map gwD noOwn_gw _, q⟩) (fun pre env => ((pre.map GWay.src).Pairwise (· ≤ ·) ∧ ∀ w ∈ pre, rwG P.nm.length P.bx.length w) ∧ ∃ (last : Int) (o o2 : Option D), env = [some (chG false P), some (.int P.nm.length), some (.int last), o, o2] ∧ (0 ≤ last ∧ (∀ w ∈ pre, w.src ≤ last) ∧ (pre = [] → last = 0) ∧ (pre ≠ [] → ∃ w ∈ pre, w.src = last))) ⟨⟨.nil, fun _ h => absurd h List.not_mem_nil⟩, 0, _, _, rfl, by omega, fun _ h => absurd h List.not_mem_nil, fun _ => rfl, fun h => absurd rfl h⟩ ?_ ?_
  · rintro pre w post _ e ⟨⟨a1, a2⟩, last, o, o2, rfl, p0, p1, p2, p3⟩
    have mw : w ∈ P.ways := by rw [e]; simp
    have bad : ¬ rwG P.nm.length P.bx.length w → QX ⟨"BadWay", none⟩ [chG false P] := fun h => qx fun z => h (z.2 w mw)
    have bad2 : w.src < last → QX ⟨"BadWay", none⟩ [chG false P] := fun h => qx fun z => by
      have hw := z.2 w mw
      have hs := z.1
      rw [e, List.map_append, List.map_cons] at hs
      by_cases hp : pre = []
      · have := p2 hp
        have := hw.s0
        omega
      · obtain ⟨v, mv, hv⟩ := p3 hp
        have := (List.pairwise_append.mp hs).2.2 v.src (List.mem_map.mpr ⟨v, mv, rfl⟩) w.src List.mem_cons_self
        omega
    refine sq_cut (fun env => (last ≤ w.src ∧ w.src < P.nm.length ∧ -1 ≤ w.tgt ∧ w.tgt < P.nm.length) ∧ env = [some (chG false P), some (.int P.nm.length), some (.int last), some (gwD w), o2]) ?_ ?_
    · unfold gwD
      walk_at "vx"
      exact ⟨fun h => ⟨_, rfl, bad2 h⟩, fun h1 => ⟨fun h => ⟨_, rfl, bad fun z => (by have := z.s1; omega)⟩, fun h2 => ⟨fun h => ⟨_, rfl, bad fun z => (by have := z.t0; omega)⟩, fun h3 => ⟨fun h => ⟨_, rfl, bad fun z => (by have := z.t1; omega)⟩, fun h4 => ⟨by omega, by omega, by omega, by omega⟩⟩⟩⟩⟩
    rintro _ ⟨⟨c1, c2, c3, c4⟩, rfl⟩
    refine sq_i ?_
    unfold gwD
    walk_at "vx"
    refine sq_cut (fun env => (isNameM w.sign = true ∧ w.mode ∈ modesL) ∧ env = [some (chG false P), some (.int P.nm.length), some (.int w.src), some (gwD w), o2]) ?_ ?_
    · walk_at "vx"
      have hm : ([D.str "new", D.str "near", D.str "far"].any fun d => deq d (D.str w.mode)) = decide (w.mode ∈ modesL) := m_strs modesL w.mode
      refine u_is_name (f.sg w mw) ?_
      rw [hm]
      exact ⟨fun h => ⟨_, rfl, bad fun z => (by have := z.sg; rw [h] at this; cases this)⟩, fun h1 => ⟨rfl, fun h => ⟨_, rfl, bad fun z => of_decide_eq_false h z.md⟩, fun h2 => ⟨⟨h1, of_decide_eq_true h2⟩, rfl⟩⟩⟩
    rintro _ ⟨⟨c5, c6⟩, rfl⟩
    refine sq_cut (fun env => (w.tgt = -1 → w.mode = "new") ∧ env = [some (chG false P), some (.int P.nm.length), some (.int w.src), some (gwD w), o2]) ?_ ?_
    · unfold gwD
      walk_at "vx"
      exact ⟨fun h1 => ⟨fun h2 => ⟨_, rfl, bad fun z => h2 (z.st h1)⟩, fun h2 _ => h2⟩, fun h1 z => absurd z h1⟩
    rintro _ ⟨c7, rfl⟩
    have efz : frzL (w.asks.map gaD) = w.asks.map gaD := frzL_id _ (noOwnL_map gaD noOwn_gaD w.asks)
    unfold gwD
    refine for_pre gaD (xs := w.asks) (fun Q q => by walk_at "vx"; rw [efz]; exact ⟨noOwnL_map gaD noOwn_gaD w.asks, q⟩) (fun pre2 env => (∀ a ∈ pre2, raB P.nm.length P.bx.length a = true) ∧ ∃ o2 : Option D, env = [some (chG false P), some (.int P.nm.length), some (.int w.src), some (gwD w), o2]) ⟨fun _ h => absurd h List.not_mem_nil, _, rfl⟩ ?_ ?_
    · rintro pre2 a post2 _ e2 ⟨hp2, o2, rfl⟩
      have ma : a ∈ w.asks := by rw [e2]; simp
      walk_at "vG"
      rw [frz_id _ (noOwn_gaD a)]
      refine u_right_askG (f.as w mw a ma) ⟨.inl rfl, fun h => ⟨_, rfl, bad fun z => (by have := z.as a ma; rw [h] at this; cases this)⟩, fun h => ⟨fun x m => ?_, _, rfl⟩⟩
      rcases List.mem_append.mp m with m | m
      · exact hp2 x m
      · rw [List.mem_singleton.mp m]; exact h
    · rintro _ ⟨hp2, o2, rfl⟩
      have hwr : rwG P.nm.length P.bx.length w := ⟨by omega, c2, c3, c4, c5, c6, c7, hp2⟩
      refine ⟨⟨?_, fun x m => ?_⟩, w.src, _, _, rfl, by omega, fun x m => ?_, fun h => absurd h (by simp), fun _ => ⟨w, by simp, rfl⟩⟩
      · rw [List.map_append]
        refine List.pairwise_append.mpr ⟨a1, by simp, fun x mx y my => ?_⟩
        obtain ⟨v, mv, rfl⟩ := List.mem_map.mp mx
        rw [List.map_cons, List.map_nil, List.mem_singleton] at my
        rw [my]
        exact Int.le_trans (p1 v mv) c1
      · rcases List.mem_append.mp m with m | m
        · exact a2 x m
        · rw [List.mem_singleton.mp m]; exact hwr
      · rcases List.mem_append.mp m with m | m
        · exact Int.le_trans (p1 x m) c1
        · rw [List.mem_singleton.mp m]; exact Int.le_refl _
  · rintro _ ⟨a, last, o, o2, rfl, _⟩
    exact ⟨_, rfl, q a⟩
-- needs: m_raw look_at_numbersX look_at_kindsX look_at_namesX look_at_boxesX look_at_deedsX look_at_waysX
def sp_lookedX : SpG := fun ds QD QX => ∃ P, ds = [chG false P] ∧ fPG P ∧ refG P (QD .non [chG false P]) (fun c => QX ⟨c, none⟩ [chG false P])
theorem len_lookedX : ∀ ds QD QX, sp_lookedX ds QD QX → ds.length = 1 := by rintro _ _ _ ⟨_, rfl, _⟩; rfl
theorem u_lookedX {P : PG} {QD : D → List D → Prop} {QX : XC → List D → Prop} (h : fPG P) (q : refG P (QD .non [chG false P]) (fun c => QX ⟨c, none⟩ [chG false P])) : sp_lookedX [chG false P] QD QX := ⟨P, rfl, h, q⟩
theorem d_lookedX : ∀ ds QD QX, sp_lookedX ds QD QX → w_lookedX sp_look_at_numbersX sp_look_at_kindsX sp_look_at_namesX sp_look_at_boxesX sp_look_at_deedsX sp_look_at_waysX { nx := fun env => ∃ ds', backD [] env 0 ds = some ds' ∧ QD .non ds', rt := fun d env => ∃ ds', backD [] env 0 ds = some ds' ∧ QD d ds', ex := fun xc env => ∃ ds', backD [] env 0 ds = some ds' ∧ QX xc ds' } (env0 1 ds) := by
  rintro _ QD QX ⟨P, rfl, f, qT, qR⟩
  unfold w_lookedX
  have fz : noOwn (chG false P) = true := noOwn_chG P
  have bad1 : ¬ (lkN P ∧ lkK P) → QX ⟨"BadTree", none⟩ [chG false P] := qT
  refine sq_i ?_
  walk_at "vG"
  refine u_look_at_numbersX f (fun hN => ⟨_, rfl, ?_⟩) fun hN => ⟨_, rfl, _, rfl, bad1 fun z => hN z.1⟩
  refine sq_i ?_
  walk_at "vG"
  refine u_look_at_kindsX hN.1 hN.2.1 f.ks (fun h1 h2 => ⟨_, rfl, ?_⟩) fun hK => ⟨_, rfl, _, rfl, bad1 fun z => hK z.2⟩
  obtain ⟨bM, qM⟩ := qR hN ⟨h1, h2⟩
  refine sq_i ?_
  walk_at "vG"
  refine u_look_at_namesX f (fun hM => ⟨_, rfl, ?_⟩) fun hM => ⟨_, rfl, _, rfl, bM hM⟩
  obtain ⟨bX, qX⟩ := qM hM
  refine sq_i ?_
  walk_at "vG"
  refine u_look_at_boxesX f (fun hX => ⟨_, rfl, ?_⟩) fun hX => ⟨_, rfl, _, rfl, bX hX⟩
  obtain ⟨bD, qD⟩ := qX hX
  refine sq_i ?_
  walk_at "vG"
  refine u_look_at_deedsX f (fun hD => ⟨_, rfl, ?_⟩) fun hD => ⟨_, rfl, _, rfl, bD hD⟩
  obtain ⟨bW, qW⟩ := qD hD
  walk_at "vG"
  exact u_look_at_waysX f (fun hW => ⟨_, rfl, _, rfl, qW hW⟩) fun hW => ⟨_, rfl, _, rfl, bW hW⟩
-- needs: m_raw lookedX
/-- the number of the class that a chart is refused with, -1 if it is let -/
def refN (P : PG) (q : Int → Prop) : Prop :=
  (¬ (lkN P ∧ lkK P) → q 0) ∧ (lkN P → lkK P → (¬ lkM P → q 1) ∧ (lkM P → (¬ lkX P → q 2) ∧ (lkX P → (¬ lkD P → q 3) ∧ (lkD P → (¬ lkW P → q 4) ∧ (lkW P → q (-1))))))
def sp_L_refusal : SpD := fun ds Q => ∃ P, ds = [chG false P] ∧ fPG P ∧ refN P fun k => Q (.int k)
theorem len_L_refusal : ∀ ds Q, sp_L_refusal ds Q → ds.length = 1 := by rintro _ _ ⟨_, rfl, _⟩; rfl
theorem u_L_refusal {P : PG} {Q : D → Prop} (h : fPG P) (q : refN P fun k => Q (.int k)) : sp_L_refusal [chG false P] Q := ⟨P, rfl, h, q⟩
theorem d_L_refusal : ∀ ds Q, sp_L_refusal ds Q → w_L_refusal sp_lookedX { nx := fun _ => Q .non, rt := fun d _ => Q d } (env0 3 ds) := by
  rintro _ Q ⟨P, rfl, f, q⟩
  have fz : noOwn (chG false P) = true := noOwn_chG P
  have n0 : (("BadTree" : Str) == "BadTree") = true ∧ (("BadName" : Str) == "BadTree") = false ∧ (("BadBox" : Str) == "BadTree") = false ∧ (("BadDeed" : Str) == "BadTree") = false ∧ (("BadWay" : Str) == "BadTree") = false := by decide +kernel
  have n1 : (("BadName" : Str) == "BadName") = true ∧ (("BadBox" : Str) == "BadName") = false ∧ (("BadDeed" : Str) == "BadName") = false ∧ (("BadWay" : Str) == "BadName") = false := by decide +kernel
  have n2 : (("BadBox" : Str) == "BadBox") = true ∧ (("BadDeed" : Str) == "BadBox") = false ∧ (("BadWay" : Str) == "BadBox") = false := by decide +kernel
  have n3 : (("BadDeed" : Str) == "BadDeed") = true ∧ (("BadWay" : Str) == "BadDeed") = false ∧ (("BadWay" : Str) == "BadWay") = true := by decide +kernel
  unfold w_L_refusal
  refine sq_i ?_
  walk_at "vx"
  refine sq_i ?_
  walk_at "vx"
  refine sq_cut (fun env => ∃ (k : Int) (b : Bool), (k = -1 → b = true ∧ lkN P ∧ lkK P ∧ lkM P ∧ lkX P ∧ lkD P ∧ lkW P) ∧ Q (.int k) ∧ env = [some (chG false P), some (.int k), some (.bl b)]) ?_ ?_
  · unfold tryM_
    walk_at "vG"
    refine u_lookedX f ?_
    obtain ⟨q0, q⟩ := q
    refine ⟨fun h => ⟨_, rfl, .inl ⟨n0.1, 0, false, (fun z => absurd z (by decide)), q0 h, rfl⟩⟩, fun hN hK => ?_⟩
    obtain ⟨q1, q⟩ := q hN hK
    refine ⟨fun h => ⟨_, rfl, .inr ⟨n0.2.1, .inl ⟨n1.1, 1, false, (fun z => absurd z (by decide)), q1 h, rfl⟩⟩⟩, fun hM => ?_⟩
    obtain ⟨q2, q⟩ := q hM
    refine ⟨fun h => ⟨_, rfl, .inr ⟨n0.2.2.1, .inr ⟨n1.2.1, .inl ⟨n2.1, 2, false, (fun z => absurd z (by decide)), q2 h, rfl⟩⟩⟩⟩, fun hX => ?_⟩
    obtain ⟨q3, q⟩ := q hX
    refine ⟨fun h => ⟨_, rfl, .inr ⟨n0.2.2.2.1, .inr ⟨n1.2.2.1, .inr ⟨n2.2.1, .inl ⟨n3.1, 3, false, (fun z => absurd z (by decide)), q3 h, rfl⟩⟩⟩⟩⟩, fun hD => ?_⟩
    obtain ⟨q4, q⟩ := q hD
    refine ⟨fun h => ⟨_, rfl, .inr ⟨n0.2.2.2.2, .inr ⟨n1.2.2.2, .inr ⟨n2.2.2, .inr ⟨n3.2.1, .inl ⟨n3.2.2, 4, false, (fun z => absurd z (by decide)), q4 h, rfl⟩⟩⟩⟩⟩⟩, fun hW => ?_⟩
    exact ⟨_, rfl, (fun z => by cases z), -1, true, fun _ => ⟨rfl, hN, hK, hM, hX, hD, hW⟩, q hW, rfl⟩
  rintro _ ⟨k, b, h1, h2, rfl⟩
  refine sq_i ?_
  walk_at "vx"
  exact ⟨fun e => ⟨fun z => absurd ((h1 e).1.symm.trans z) (by decide), fun _ => h2⟩, fun _ => h2⟩
-- needs: m_raw lookedX L_refusal
def baseD (k : Int) : D := .lst true ((true :: (List.range 5).map fun j : Nat => decide ((j : Int) = k)).map .bl)
/-- as refN, where no chart is let -/
def refB (P : PG) (q : Int → Prop) : Prop :=
  (¬ (lkN P ∧ lkK P) → q 0) ∧ (lkN P → lkK P → (¬ lkM P → q 1) ∧ (lkM P → (¬ lkX P → q 2) ∧ (lkX P → (¬ lkD P → q 3) ∧ (lkD P → (¬ lkW P → q 4) ∧ ¬ lkW P))))
def sp_L_bases_2 : SpD := fun ds Q => ∃ P, ds = [chG false P] ∧ fPG P ∧ refB P fun k => Q (baseD k)
theorem len_L_bases_2 : ∀ ds Q, sp_L_bases_2 ds Q → ds.length = 1 := by rintro _ _ ⟨_, rfl, _⟩; rfl
theorem u_L_bases_2 {P : PG} {Q : D → Prop} (h : fPG P) (q : refB P fun k => Q (baseD k)) : sp_L_bases_2 [chG false P] Q := ⟨P, rfl, h, q⟩
theorem d_L_bases_2 : ∀ ds Q, sp_L_bases_2 ds Q → w_L_bases_2 sp_lookedX { nx := fun _ => Q .non, rt := fun d _ => Q d } (env0 3 ds) := by
  rintro _ Q ⟨P, rfl, f, q⟩
  have fz : noOwn (chG false P) = true := noOwn_chG P
  have nn : ∀ k : Nat, k < 5 → (([true, ((["BadTree", "BadName", "BadBox", "BadDeed", "BadWay"] : List Str).getD k "") == "BadTree", ((["BadTree", "BadName", "BadBox", "BadDeed", "BadWay"] : List Str).getD k "") == "BadName", ((["BadTree", "BadName", "BadBox", "BadDeed", "BadWay"] : List Str).getD k "") == "BadBox", ((["BadTree", "BadName", "BadBox", "BadDeed", "BadWay"] : List Str).getD k "") == "BadDeed", ((["BadTree", "BadName", "BadBox", "BadDeed", "BadWay"] : List Str).getD k "") == "BadWay"] : List Bool)) = true :: (List.range 5).map fun j : Nat => decide ((j : Int) = (k : Int)) := by decide +kernel
  unfold w_L_bases_2
  refine sq_i ?_
  walk_at "vx"
  refine sq_cut (fun env => ∃ k : Int, Q (baseD k) ∧ env = [some (chG false P), some (baseD k), none]) ?_ ?_
  · unfold tryAsM_
    walk_at "vG"
    refine ⟨by decide, u_lookedX f ?_⟩
    have go : ∀ (k : Nat), k < 5 → Q (baseD k) → ∀ c : Str, c = ((["BadTree", "BadName", "BadBox", "BadDeed", "BadWay"] : List Str).getD k "") → ∃ k' : Int, Q (baseD k') ∧ ([some (chG false P), some (D.lst true [D.bl true, D.bl (c == "BadTree"), D.bl (c == "BadName"), D.bl (c == "BadBox"), D.bl (c == "BadDeed"), D.bl (c == "BadWay")]), none] : Env) = [some (chG false P), some (baseD k'), none] := fun k hk h c e => by
      subst e
      refine ⟨k, h, ?_⟩
      unfold baseD
      rw [← nn k hk]; rfl
    obtain ⟨q0, q⟩ := q
    refine ⟨fun h => ⟨_, rfl, rfl, (by show 2 < 3; decide), go 0 (by decide) (q0 h) _ rfl⟩, fun hN hK => ?_⟩
    obtain ⟨q1, q⟩ := q hN hK
    refine ⟨fun h => ⟨_, rfl, rfl, (by show 2 < 3; decide), go 1 (by decide) (q1 h) _ rfl⟩, fun hM => ?_⟩
    obtain ⟨q2, q⟩ := q hM
    refine ⟨fun h => ⟨_, rfl, rfl, (by show 2 < 3; decide), go 2 (by decide) (q2 h) _ rfl⟩, fun hX => ?_⟩
    obtain ⟨q3, q⟩ := q hX
    refine ⟨fun h => ⟨_, rfl, rfl, (by show 2 < 3; decide), go 3 (by decide) (q3 h) _ rfl⟩, fun hD => ?_⟩
    obtain ⟨q4, nw⟩ := q hD
    exact ⟨fun h => ⟨_, rfl, rfl, (by show 2 < 3; decide), go 4 (by decide) (q4 h) _ rfl⟩, fun hW => absurd hW nw⟩
  rintro _ ⟨k, h2, rfl⟩
  walk_at "vx"
  exact h2
-- needs: m_spoil L_refusal L_bases_2
theorem alo_pgL (P : PG) : alo (.lst true (pgL P)) = true := by
  show (true && aloL (pgL P)) = true
  unfold pgL
  simp only [aloL, alo, aloL_map bxP (fun _ => rfl), aloL_str, aloL_lI, aloL_map gdsD alo_gds, aloL_map gwD alo_gw, Bool.and_true, Bool.true_and]
/-- a chart whose first wrong kind is w -/
def firstBad (w : Int) (P : PG) : Prop :=
  (w = 0 → ¬ (lkN P ∧ lkK P)) ∧ (1 ≤ w → lkN P ∧ lkK P) ∧ (w = 1 → ¬ lkM P) ∧ (2 ≤ w → lkM P) ∧ (w = 2 → ¬ lkX P) ∧ (3 ≤ w → lkX P) ∧ (w = 3 → ¬ lkD P) ∧ (4 ≤ w → lkD P) ∧ (w = 4 → ¬ lkW P)
theorem refN_of {w : Int} {P : PG} {q : Int → Prop} (w0 : 0 ≤ w) (w4 : w ≤ 4) (h : firstBad w P) (hq : q w) : refN P q := by
  obtain ⟨h0, h1, h2, h3, h4, h5, h6, h7, h8⟩ := h
  refine ⟨fun z => ?_, fun hN hK => ⟨fun z => ?_, fun hM => ⟨fun z => ?_, fun hX => ⟨fun z => ?_, fun hD => ⟨fun z => ?_, fun hW => ?_⟩⟩⟩⟩⟩
  · have : w = 0 := Classical.byContradiction fun e => z (h1 (by omega))
    rwa [← this]
  · have n0 : w ≠ 0 := fun e => h0 e ⟨hN, hK⟩
    have : w = 1 := Classical.byContradiction fun e => z (h3 (by omega))
    rwa [← this]
  · have n0 : w ≠ 0 := fun e => h0 e ⟨hN, hK⟩
    have n1 : w ≠ 1 := fun e => h2 e hM
    have : w = 2 := Classical.byContradiction fun e => z (h5 (by omega))
    rwa [← this]
  · have n0 : w ≠ 0 := fun e => h0 e ⟨hN, hK⟩
    have n1 : w ≠ 1 := fun e => h2 e hM
    have n2 : w ≠ 2 := fun e => h4 e hX
    have : w = 3 := Classical.byContradiction fun e => z (h7 (by omega))
    rwa [← this]
  · have n0 : w ≠ 0 := fun e => h0 e ⟨hN, hK⟩
    have n1 : w ≠ 1 := fun e => h2 e hM
    have n2 : w ≠ 2 := fun e => h4 e hX
    have n3 : w ≠ 3 := fun e => h6 e hD
    have : w = 4 := by omega
    rwa [← this]
  · have n0 : w ≠ 0 := fun e => h0 e ⟨hN, hK⟩
    have n1 : w ≠ 1 := fun e => h2 e hM
    have n2 : w ≠ 2 := fun e => h4 e hX
    have n3 : w ≠ 3 := fun e => h6 e hD
    have n4 : w ≠ 4 := fun e => h8 e hW
    omega
theorem refB_of {w : Int} {P : PG} {q : Int → Prop} (w0 : 0 ≤ w) (w4 : w ≤ 4) (h : firstBad w P) (hq : q w) : refB P q := by
  have ⟨a0, a⟩ := refN_of w0 w4 h hq
  refine ⟨a0, fun hN hK => ?_⟩
  have ⟨a1, a⟩ := a hN hK
  refine ⟨a1, fun hM => ?_⟩
  have ⟨a2, a⟩ := a hM
  refine ⟨a2, fun hX => ?_⟩
  have ⟨a3, a⟩ := a hX
  refine ⟨a3, fun hD => ?_⟩
  have ⟨a4, a⟩ := a hD
  refine ⟨a4, fun hW => ?_⟩
  obtain ⟨h0, h1, h2, h3, h4, h5, h6, h7, h8⟩ := h
  have n0 : w ≠ 0 := fun e => h0 e ⟨hN, hK⟩
  have n1 : w ≠ 1 := fun e => h2 e hM
  have n2 : w ≠ 2 := fun e => h4 e hX
  have n3 : w ≠ 3 := fun e => h6 e hD
  have n4 : w ≠ 4 := fun e => h8 e hW
  omega
theorem eqOk_base (w : Int) : eqOk (baseD w) 60 = true := rfl
/-- the kinds below m are right -/
def lkB (m : Int) (P : PG) : Prop := (1 ≤ m → lkN P ∧ lkK P) ∧ (2 ≤ m → lkM P) ∧ (3 ≤ m → lkX P) ∧ (4 ≤ m → lkD P) ∧ (5 ≤ m → lkW P)
theorem lkB_step {m w : Int} {P P' : PG} (h : lkB m P) (w0 : 0 ≤ w) (w4 : w ≤ 4) (lt : w < m) (hs : spoilR w P P') : firstBad w P' := by
  obtain ⟨s0, s1, s2, s3, s4, _⟩ := hs
  obtain ⟨h1, h2, h3, h4, h5⟩ := h
  have hN := fun (k : 1 ≤ m) => (h1 k).1
  have hK := fun (k : 1 ≤ m) => (h1 k).2
  refine ⟨s0, fun h => ?_, fun h => (s1 h).2.2, fun h => ?_, fun h => (s2 h).2.2.2, fun h => ?_, fun h => (s3 h).2.2.2.2, fun h => ?_, fun h => (s4 h).2.2.2.2.2⟩
  · rcases (show w = 1 ∨ w = 2 ∨ w = 3 ∨ w = 4 by omega) with e | e | e | e
    · exact ⟨(s1 e).1 (hN (by omega)), (s1 e).2.1 (hK (by omega))⟩
    · exact ⟨(s2 e).1 (hN (by omega)), (s2 e).2.1 (hK (by omega))⟩
    · exact ⟨(s3 e).1 (hN (by omega)), (s3 e).2.1 (hK (by omega))⟩
    · exact ⟨(s4 e).1 (hN (by omega)), (s4 e).2.1 (hK (by omega))⟩
  · rcases (show w = 2 ∨ w = 3 ∨ w = 4 by omega) with e | e | e
    · exact (s2 e).2.2.1 (h2 (by omega))
    · exact (s3 e).2.2.1 (h2 (by omega))
    · exact (s4 e).2.2.1 (h2 (by omega))
  · rcases (show w = 3 ∨ w = 4 by omega) with e | e
    · exact (s3 e).2.2.2.1 (h3 (by omega))
    · exact (s4 e).2.2.2.1 (h3 (by omega))
  · have e : w = 4 := by omega
    exact (s4 e).2.2.2.2.1 (h4 (by omega))
theorem firstBad.below {w : Int} {P : PG} (w4 : w ≤ 4) (h : firstBad w P) : lkB w P := ⟨h.2.1, h.2.2.2.1, h.2.2.2.2.2.1, h.2.2.2.2.2.2.2.1, fun z => by omega⟩
def sp_law_57 : SpD := spLaw fun ys => ys.length ≤ 63
theorem len_law_57 : ∀ ds Q, sp_law_57 ds Q → ds.length = 1 := by rintro _ _ ⟨_, rfl, _⟩; rfl
theorem d_law_57 : ∀ ds Q, sp_law_57 ds Q → w_law_57 sp_L_partsM sp_L_cell_at sp_L_spoil_2 sp_L_chart_8 sp_L_refusal sp_L_bases_2 { nx := fun _ => Q .non, rt := fun d _ => Q d } (env0 8 ds) := by
  rintro _ Q ⟨ns, rfl, hl, q⟩
  unfold w_law_57
  refine sq_i ?_
  refine lc_intsA (ns := ns.take 120) (fun Q q => by walk_at "vx"; rw [cutD_to _ (by omega), ← List.map_take, frzL_id _ (noOwnL_map D.int (fun _ => rfl) _)]; exact q) (fun x => .int (x % 10 ^ 64)) (fun x _ => by walk_at "vx"; decide) (by rw [List.length_take, sizeLine_eq]; omega) ?_
  rw [show (ns.take 120).map (fun x => D.int (x % 10 ^ 64)) = ((ns.take 120).map fun x => x % 10 ^ 64).map .int by rw [List.map_map]; rfl]
  generalize (ns.take 120).map (fun x => x % 10 ^ 64) = sc
  refine sq_i ?_
  walk_at "vx"
  refine u_L_partsM fun P ok => ⟨.inl (alo_pgL _), ?_⟩
  obtain ⟨hN, hK, hM, hX, hD, hW⟩ := ok.oks
  refine sq_i ?_
  walk_at "vx"
  refine u_L_cell_at0 (m := false) (ns := sc) (by omega) ⟨.inl rfl, ?_⟩
  walk_at "wx"
  generalize sc.getD _ 0 = c3
  have b0 := Int.emod_nonneg (c3 / 11) (show (32 : Int) ≠ 0 by decide)
  have b1 := Int.emod_lt_of_pos (c3 / 11) (show (0 : Int) < 32 by decide)
  generalize c3 / 11 % 32 = bits at b0 b1 ⊢
  refine sq_i ?_
  refine lc_rng1p (j := 5) (fun Q q => by walk_at "vx"; exact q) (by omega) (by omega) (fun k => decide (bits / ([1, 2, 4, 8, 16] : List Int).getD k 0 % 2 = 1)) (fun k => .int (k : Nat)) (fun k hk => ?_) (fun k _ _ => by walk_at "vx") ?_
  · walk_at "vx"
    refine ix_map (f := D.int) (xs := [1, 2, 4, 8, 16]) 0 (by omega) (by show (k : Int) < 5; omega) ?_
    rw [Int.toNat_natCast]
    have hd : 0 < ([1, 2, 4, 8, 16] : List Int).getD k 0 ∧ ([1, 2, 4, 8, 16] : List Int).getD k 0 < 17 := by
      have : ∀ j : _root_.Fin 5, 0 < ([1, 2, 4, 8, 16] : List Int).getD j.val 0 ∧ ([1, 2, 4, 8, 16] : List Int).getD j.val 0 < 17 := by decide
      exact this ⟨k, by omega⟩
    generalize ([1, 2, 4, 8, 16] : List Int).getD k 0 = d at hd ⊢
    walk_at "vx"
    exact ⟨by omega, by omega⟩
  refine sq_cut (fun env => ∃ ws : List Int, ws ≠ [] ∧ ws.Pairwise (· < ·) ∧ (∀ w ∈ ws, 0 ≤ w ∧ w ≤ 4) ∧ ws.length ≤ 5 ∧ env = [some (lI true sc), none, some (.lst true (pgL P.raw)), some (.int bits), some (lI true ws), none, none, none]) ?_ ?_
  · walk_at "vx"
    refine ⟨fun _ => ⟨[bits % 4, 4], by simp, by simp; omega, fun w m => ?_, by simp, rfl⟩, fun h => ⟨((List.range 5).filter fun k => decide (bits / ([1, 2, 4, 8, 16] : List Int).getD k 0 % 2 = 1)).map fun k : Nat => (k : Int), fun e => ?_, ?_, fun w m => ?_, ?_, ?_⟩⟩
    · simp only [List.mem_cons, List.not_mem_nil, or_false] at m
      omega
    · have := congrArg List.length e
      rw [List.length_map] at this
      simp only [List.length_nil] at this
      omega
    · rw [List.pairwise_map]
      exact (List.pairwise_lt_range.filter _).imp fun h => by omega
    · obtain ⟨k, hk, rfl⟩ := List.mem_map.mp m
      have := List.mem_range.mp (List.mem_filter.mp hk).1
      omega
    · rw [List.length_map]
      have := List.length_filter_le (fun k => decide (bits / ([1, 2, 4, 8, 16] : List Int).getD k 0 % 2 = 1)) (List.range 5)
      rw [List.length_range] at this
      exact this
    · unfold lI
      rw [List.map_map]; rfl
  rintro _ ⟨ws, hne, hp, hb, hl5, rfl⟩
  have lpos : 1 ≤ ws.length := Nat.pos_of_ne_zero fun e => hne (List.eq_nil_of_length_eq_zero e)
  refine sq_i ?_
  refine for_rng1 (j := (ws.length : Int)) (fun Q q => by walk_at "vx"; exact q) (by omega) (by omega)
    (fun k env => ∃ (P' : PG) (o5 o6 : Option D), fS P' (2 * k) ∧ (k = 0 → lkB 5 P') ∧ (1 ≤ k → firstBad (ws.getD (ws.length - k) 0) P') ∧ env = [some (lI true sc), none, some (.lst true (pgL P')), some (.int bits), some (lI true ws), o5, o6, none])
    ⟨P.raw, _, _, ok.fs, fun _ => ⟨fun _ => ⟨hN, hK⟩, fun _ => hM, fun _ => hX, fun _ => hD, fun _ => hW⟩, fun h => absurd h (by omega), rfl⟩ ?_ ?_
  · rintro k _ hk ⟨P', o5, o6, f', i0, i1, rfl⟩
    refine sq_i ?_
    walk_at "vx"
    refine ix_el (by omega) (by omega) ⟨rfl, ?_⟩
    have we : elD ws ((ws.length : Int) - 1 - k) = ws.getD (ws.length - (k + 1)) 0 := by
      unfold elD
      rw [show ((ws.length : Int) - 1 - k).toNat = ws.length - (k + 1) by omega]
    rw [we]
    have hw := hb _ (getD_mem (xs := ws) (k := ws.length - (k + 1)) (d := 0) (by omega))
    have hlt : 1 ≤ k → ws.getD (ws.length - (k + 1)) 0 < ws.getD (ws.length - k) 0 := fun h => by
      have := List.pairwise_iff_getElem.mp hp (ws.length - (k + 1)) (ws.length - k) (by omega) (by omega) (by omega)
      rw [List.getD_eq_getElem?_getD, List.getD_eq_getElem?_getD, List.getElem?_eq_getElem (by omega), List.getElem?_eq_getElem (by omega)]
      exact this
    have hle : 1 ≤ k → ws.getD (ws.length - k) 0 ≤ 4 := fun h => (hb _ (getD_mem (xs := ws) (k := ws.length - k) (d := 0) (by omega))).2
    generalize ws.getD (ws.length - (k + 1)) 0 = w at hw hlt ⊢
    obtain ⟨m, hm, hwm⟩ : ∃ m, lkB m P' ∧ w < m := by
      by_cases h0 : k = 0
      · exact ⟨5, i0 h0, by omega⟩
      · exact ⟨_, (i1 (by omega)).below (hle (by omega)), hlt (by omega)⟩
    walk_at "vx"
    refine ⟨⟨_, rfl⟩, u_L_cell_at0 (m := false) (ns := sc) (by omega) ⟨.inl rfl, ?_⟩⟩
    walk_at "wx"
    refine ⟨by decide, rfl, ?_⟩
    refine u_L_spoil_2 hw.1 hw.2 f' (by omega) (hm.1 (by omega)).1 (hm.1 (by omega)).2 (fun e => ⟨(hm.2.2.2.1 (by omega)).1, (hm.2.2.2.1 (by omega)).2.1⟩) (fun e => hm.2.2.2.2 (by omega)) fun P2 f2 hs => ⟨_, rfl, P2, _, _, f2, lkB_step hm hw.1 hw.2 hwm hs, rfl⟩
  rintro _ ⟨P', o5, o6, f', _, i1, rfl⟩
  have fbad : firstBad (ws.getD 0 0) P' := by have := i1 (by omega); rwa [Int.toNat_natCast, Nat.sub_self] at this
  have f' : fS P' 10 := f'.up (by omega)
  have hw := hb _ (getD_mem (xs := ws) (k := 0) (d := 0) (by omega))
  generalize hw0 : ws.getD 0 0 = w at fbad hw
  refine sq_i ?_
  walk_at "vx"
  refine u_L_chart_8 (f'.form (by omega)) ⟨.inl (alo_chG _), ?_⟩
  refine sq_i ?_
  walk_at "vx"
  rw [frz_chG]
  refine u_L_refusal (f'.form (by omega)) (refN_of hw.1 hw.2 fbad ⟨.inl rfl, ?_⟩)
  have hix : ∀ {Q2 : D → Prop}, Q2 (.int w) → ∃ d, atI (ws.map D.int) 0 = some d ∧ Q2 d := fun {Q2} h => ix_el (xs := ws) (by omega) (by omega) (by
    show Q2 (.int (ws.getD (0 : Int).toNat 0))
    rw [show ws.getD (0 : Int).toNat 0 = w from hw0]; exact h)
  have e0 : deq (.int w) (.int w) = true := by rw [deq_int]; simp
  refine hix ⟨.inl rfl, fun z => absurd z (by rw [e0]; simp), fun _ => ?_⟩
  refine sq_i ?_
  walk_at "vx"
  rw [frz_chG]
  refine u_L_bases_2 (f'.form (by omega)) (refB_of hw.1 hw.2 fbad ⟨.inl rfl, ?_⟩)
  refine lc_rng1 (j := 5) (fun Q q => by walk_at "vx"; exact q) (by omega) (by omega) (fun k => .bl (decide ((k : Int) = w))) (fun k hk => by walk_at "vx"; exact hix ⟨.inl rfl, by rw [deq_int]⟩) ?_
  rw [show D.lst true ((List.range (5 : Int).toNat).map fun k : Nat => D.bl (decide ((k : Int) = w))) = D.lst true (((List.range 5).map fun k : Nat => decide ((k : Int) = w)).map .bl) by rw [List.map_map]; rfl]
  have eb : D.lst true ([D.bl true] ++ ((List.range 5).map fun k : Nat => decide ((k : Int) = w)).map .bl) = baseD w := rfl
  refine ⟨rfl, noOwnL_map D.bl (fun _ => rfl) _, by simp, ?_⟩
  rw [eb]
  refine ⟨.inr ⟨eqOk_base w, eqOk_base w⟩, fun z => absurd z (by rw [show deq (baseD w) (baseD w) = true from PySem.SeqAt.eqv_refl _ (canLay_of _ 60 (eqOk_base w))]; simp), fun _ => ?_⟩
  refine u_L_refusal (f'.form (by omega)) (refN_of hw.1 hw.2 fbad ⟨.inl rfl, hix ⟨.inl rfl, ?_⟩⟩)
  rw [e0]; exact q
end VL
namespace VL
open PySem L2 PyProof.Rows
def top (i : Nat) : Stmt := PySem.Challenge.pw_moodtree_k17_the_first_refusal_is_told.main.body.getD i (.Pass ⟨0, 0, 0, 0⟩)
abbrev frees : List Str := ["ValueError", "int", "isinstance", "len", "list", "range", "sorted", "str", "tuple"]
section
variable {P : Program} {w : World} {K : PySem.W.Frag} {mg : Str → Option Value} {base : Heap} {cs : Cs}
abbrev s_L_above : Stmt := top 33
theorem sc_L_above : FnScope ["elders", "at", "found"] ["elders", "at"] (defScope s_L_above) := ⟨rfl, rfl, rfl, by decide +kernel, rfl, by decide +kernel, by decide +kernel⟩
theorem vs_L_above (hC : CsOk K cs) (hcf : ∀ ci ∈ cs, ci.fields = fieldsOf ci.name) (fr : Free mg frees) (gc_DEEPEST : ∃ t, mg "DEEPEST" = some (.int 12 t)) (gc_FIGURES : ∃ t, mg "FIGURES" = some (.str "0123456789" t)) (gc_LETTERS : ∃ t, mg "LETTERS" = some (.str "abcdefghijklmnopqrstuvwxyz" t)) (gc_WORDS : ∃ a, mg "WORDS" = some (.ref a) ∧ TupS K a ["all", "and", "box", "call", "do", "far", "if", "in", "leaf", "near", "on", "one", "open", "out", "put", "say", "shut", "then", "to"]) {f : Addr} {cdv : Value} {A : Around} {outer : List PySem.Env} {sh : Shared} {H : Hp} {E : XK} (hr : Room 0 (A.deeper (envOfC "_law_above" (defScope s_L_above) sh.heap.objs.size f cdv))) :
    VSs (cxOf CX0 P w K mg base ["elders", "at", "found"] "_law_above" (defScope s_L_above) f cdv A outer sh H E).nox cs [] (defBody s_L_above) (w_L_above) :=
  (vss_cons (vs_set 2 (vt_lst vm_nil) sc_L_above.nd) (vss_cons (vs_while PassesOwn.never (vb_cmp (op_ne2 hr.units) od_ne (vp_ix (vp_v 0) (vp_v 1)) (vp_of (vt_neg (vp_of vt_int))) (nomark _)) (vss_cons (vs_set 1 (vt_tk (vp_ix (vp_v 0) (vp_v 1))) sc_L_above.nd) (vss_one (vs_app 2 (pe_bm PySem.F.plainAttrs_list PySem.F.slot_list_append PySem.F.type_list_append mt_append (pv 2) (pa_cons (VT.run (vt_tk (vp_v 1))) pa_nil)))))) (vss_one (vs_retv 2))))
theorem kn_L_above (hC : CsOk K cs) (hcf : ∀ ci ∈ cs, ci.fields = fieldsOf ci.name) (fr : Free mg frees) (gc_DEEPEST : ∃ t, mg "DEEPEST" = some (.int 12 t)) (gc_FIGURES : ∃ t, mg "FIGURES" = some (.str "0123456789" t)) (gc_LETTERS : ∃ t, mg "LETTERS" = some (.str "abcdefghijklmnopqrstuvwxyz" t)) (gc_WORDS : ∃ a, mg "WORDS" = some (.ref a) ∧ TupS K a ["all", "and", "box", "call", "do", "far", "if", "in", "leaf", "near", "on", "one", "open", "out", "put", "say", "shut", "then", "to"]) {f : Addr} {fd : FuncData} (F : Fun K "_law_above" "_law_above" s_L_above f fd) (hm : mg "_law_above" = some (.ref f)) (hb : Binds K fd ["elders", "at"] []) {s : SpD} (hl : ∀ ds Q, s ds Q → ds.length = 2)
    (hd : ∀ ds Q, s ds Q → w_L_above { nx := fun _ => Q .non, rt := fun d _ => Q d } (env0 3 ds)) : Kn P w K mg base cs "_law_above" 1 ["elders", "at"] s :=
  ⟨f, fd, fn_pure F sc_L_above hl (fun _ _ _ _ _ _ hr => vs_L_above hC hcf fr gc_DEEPEST gc_FIGURES gc_LETTERS gc_WORDS hr) hd, hm, F.kp, hb⟩
abbrev s_L_cell_at : Stmt := top 32
theorem sc_L_cell_at : FnScope ["script", "k"] ["script", "k"] (defScope s_L_cell_at) := ⟨rfl, rfl, rfl, by decide +kernel, rfl, by decide +kernel, by decide +kernel⟩
theorem vs_L_cell_at (hC : CsOk K cs) (hcf : ∀ ci ∈ cs, ci.fields = fieldsOf ci.name) (fr : Free mg frees) (gc_DEEPEST : ∃ t, mg "DEEPEST" = some (.int 12 t)) (gc_FIGURES : ∃ t, mg "FIGURES" = some (.str "0123456789" t)) (gc_LETTERS : ∃ t, mg "LETTERS" = some (.str "abcdefghijklmnopqrstuvwxyz" t)) (gc_WORDS : ∃ a, mg "WORDS" = some (.ref a) ∧ TupS K a ["all", "and", "box", "call", "do", "far", "if", "in", "leaf", "near", "on", "one", "open", "out", "put", "say", "shut", "then", "to"]) {f : Addr} {cdv : Value} {A : Around} {outer : List PySem.Env} {sh : Shared} {H : Hp} {E : XK} (hr : Room 0 (A.deeper (envOfC "_law_cell_at" (defScope s_L_cell_at) sh.heap.objs.size f cdv))) :
    VSs (cxOf CX0 P w K mg base ["script", "k"] "_law_cell_at" (defScope s_L_cell_at) f cdv A outer sh H E).nox cs [] (defBody s_L_cell_at) (w_L_cell_at) :=
  (vss_cons (vs_if (vb_cmp op_lt od_cmp (vp_v 1) (vp_of (vt_callB call_len cd_len rfl (fr _ (by decide)) boot_more.1 (va_cons (vp_v 0) va_nil))) (nomark _)) (vss_one (vs_ret (vt_tk (vp_ix (vp_v 0) (vp_v 1))))) vss_nil) (vss_one (vs_ret vt_int)))
theorem kn_L_cell_at (hC : CsOk K cs) (hcf : ∀ ci ∈ cs, ci.fields = fieldsOf ci.name) (fr : Free mg frees) (gc_DEEPEST : ∃ t, mg "DEEPEST" = some (.int 12 t)) (gc_FIGURES : ∃ t, mg "FIGURES" = some (.str "0123456789" t)) (gc_LETTERS : ∃ t, mg "LETTERS" = some (.str "abcdefghijklmnopqrstuvwxyz" t)) (gc_WORDS : ∃ a, mg "WORDS" = some (.ref a) ∧ TupS K a ["all", "and", "box", "call", "do", "far", "if", "in", "leaf", "near", "on", "one", "open", "out", "put", "say", "shut", "then", "to"]) {f : Addr} {fd : FuncData} (F : Fun K "_law_cell_at" "_law_cell_at" s_L_cell_at f fd) (hm : mg "_law_cell_at" = some (.ref f)) (hb : Binds K fd ["script", "k"] []) {s : SpD} (hl : ∀ ds Q, s ds Q → ds.length = 2)
    (hd : ∀ ds Q, s ds Q → w_L_cell_at { nx := fun _ => Q .non, rt := fun d _ => Q d } (env0 2 ds)) : Kn P w K mg base cs "_law_cell_at" 1 ["script", "k"] s :=
  ⟨f, fd, fn_pure F sc_L_cell_at hl (fun _ _ _ _ _ _ hr => vs_L_cell_at hC hcf fr gc_DEEPEST gc_FIGURES gc_LETTERS gc_WORDS hr) hd, hm, F.kp, hb⟩
abbrev s_L_elders_6 : Stmt := top 34
theorem sc_L_elders_6 : FnScope ["script", "many", "elders", "k", "chain", "at"] ["script", "many"] (defScope s_L_elders_6) := ⟨rfl, rfl, rfl, by decide +kernel, rfl, by decide +kernel, by decide +kernel⟩
theorem vs_L_elders_6 {sp0 : SpD} {sp1 : SpD} (hC : CsOk K cs) (hcf : ∀ ci ∈ cs, ci.fields = fieldsOf ci.name) (fr : Free mg frees) (gc_DEEPEST : ∃ t, mg "DEEPEST" = some (.int 12 t)) (gc_FIGURES : ∃ t, mg "FIGURES" = some (.str "0123456789" t)) (gc_LETTERS : ∃ t, mg "LETTERS" = some (.str "abcdefghijklmnopqrstuvwxyz" t)) (gc_WORDS : ∃ a, mg "WORDS" = some (.ref a) ∧ TupS K a ["all", "and", "box", "call", "do", "far", "if", "in", "leaf", "near", "on", "one", "open", "out", "put", "say", "shut", "then", "to"]) (kn0 : Kn P w K mg base cs "_law_above" 1 ["elders", "at"] sp0) (kn1 : Kn P w K mg base cs "_law_cell_at" 1 ["script", "k"] sp1) {f : Addr} {cdv : Value} {A : Around} {outer : List PySem.Env} {sh : Shared} {H : Hp} {E : XK} (hr : Room 1 (A.deeper (envOfC "_law_elders" (defScope s_L_elders_6) sh.heap.objs.size f cdv))) :
    VSs (cxOf CX0 P w K mg base ["script", "many", "elders", "k", "chain", "at"] "_law_elders" (defScope s_L_elders_6) f cdv A outer sh H E).nox cs [] (defBody s_L_elders_6) (w_L_elders_6 sp0 sp1) :=
  (vss_cons (vs_set 2 (vt_lst (vm_cons (vt_neg (vp_of vt_int)) vm_nil)) sc_L_elders_6.nd) (vss_cons (vs_for 3 PassesOwn.never rfl (vi_rng2 rfl (fr _ (by decide)) (va_cons (vp_of vt_int) (va_cons (vp_v 1) va_nil))) sc_L_elders_6.nd (vss_cons (vs_set 4 (vt_op op_add5 od_addG (vp_of (vt_lst (vm_cons (vt_op op_sub od_sub (vp_v 3) (vp_of vt_int)) vm_nil))) (vp_of (vt_fn kn0 (hr.mono (by decide)) rfl (va_cons (vp_v 2) (va_cons (vp_of (vt_op op_sub od_sub (vp_v 3) (vp_of vt_int))) va_nil))))) sc_L_elders_6.nd) (vss_cons (vs_frz 4 (vs_setLc 4 5 rfl sc_L_elders_6.nd rfl rfl (sw_true rfl rfl rfl (by decide +kernel)) (vi_seq (vt_tk (vp_v 4))) (blkOk_by (N := ["script", "many", "elders", "k", "chain", "at"]) (sc := defScope s_L_elders_6) (by decide +kernel)) (fun _ _ _ _ _ => pg_name sc_L_elders_6.nd rfl (Or.inl rfl)) (fun _ _ _ _ _ => (vts_one (vb_cmp op_lt od_cmp (vp_of (vt_callB call_len cd_len rfl (fr _ (by decide)) boot_more.1 (va_cons (vp_of (vt_fn kn0 (hr.mono (by decide)) rfl (va_cons (vp_v 2) (va_cons (vp_v 5) va_nil)))) va_nil))) (vp_of vt_int) (nomark _)))) (fun _ _ _ _ _ => (vt_tk (vp_v 5))))) (vss_one (vs_app 2 (pe_bm PySem.F.plainAttrs_list PySem.F.slot_list_append PySem.F.type_list_append mt_append (pv 2) (pa_cons (VT.run (vt_tk (vp_ix (vp_v 4) (vp_of (vt_op op_mod od_mod (vp_of (vt_fn kn1 (hr.mono (by decide)) rfl (va_cons (vp_v 0) (va_cons (vp_v 3) va_nil)))) (vp_of (vt_callB call_len cd_len rfl (fr _ (by decide)) boot_more.1 (va_cons (vp_v 4) va_nil)))))))) pa_nil))))))) (vss_one (vs_retv 2))))
theorem kn_L_elders_6 {sp0 : SpD} {sp1 : SpD} (hC : CsOk K cs) (hcf : ∀ ci ∈ cs, ci.fields = fieldsOf ci.name) (fr : Free mg frees) (gc_DEEPEST : ∃ t, mg "DEEPEST" = some (.int 12 t)) (gc_FIGURES : ∃ t, mg "FIGURES" = some (.str "0123456789" t)) (gc_LETTERS : ∃ t, mg "LETTERS" = some (.str "abcdefghijklmnopqrstuvwxyz" t)) (gc_WORDS : ∃ a, mg "WORDS" = some (.ref a) ∧ TupS K a ["all", "and", "box", "call", "do", "far", "if", "in", "leaf", "near", "on", "one", "open", "out", "put", "say", "shut", "then", "to"]) (kn0 : Kn P w K mg base cs "_law_above" 1 ["elders", "at"] sp0) (kn1 : Kn P w K mg base cs "_law_cell_at" 1 ["script", "k"] sp1) {f : Addr} {fd : FuncData} (F : Fun K "_law_elders" "_law_elders" s_L_elders_6 f fd) (hm : mg "_law_elders" = some (.ref f)) (hb : Binds K fd ["script", "many"] []) {s : SpD} (hl : ∀ ds Q, s ds Q → ds.length = 2)
    (hd : ∀ ds Q, s ds Q → w_L_elders_6 sp0 sp1 { nx := fun _ => Q .non, rt := fun d _ => Q d } (env0 6 ds)) : Kn P w K mg base cs "_law_elders" 2 ["script", "many"] s :=
  ⟨f, fd, fn_pure F sc_L_elders_6 hl (fun _ _ _ _ _ _ hr => vs_L_elders_6 hC hcf fr gc_DEEPEST gc_FIGURES gc_LETTERS gc_WORDS kn0 kn1 hr) hd, hm, F.kp, hb⟩
abbrev s_L_kinds_3 : Stmt := top 41
theorem sc_L_kinds_3 : FnScope ["script", "elders", "kinds", "starts", "k", "near", "at"] ["script", "elders"] (defScope s_L_kinds_3) := ⟨rfl, rfl, rfl, by decide +kernel, rfl, by decide +kernel, by decide +kernel⟩
theorem vs_L_kinds_3 {sp0 : SpD} (hC : CsOk K cs) (hcf : ∀ ci ∈ cs, ci.fields = fieldsOf ci.name) (fr : Free mg frees) (gc_DEEPEST : ∃ t, mg "DEEPEST" = some (.int 12 t)) (gc_FIGURES : ∃ t, mg "FIGURES" = some (.str "0123456789" t)) (gc_LETTERS : ∃ t, mg "LETTERS" = some (.str "abcdefghijklmnopqrstuvwxyz" t)) (gc_WORDS : ∃ a, mg "WORDS" = some (.ref a) ∧ TupS K a ["all", "and", "box", "call", "do", "far", "if", "in", "leaf", "near", "on", "one", "open", "out", "put", "say", "shut", "then", "to"]) (kn0 : Kn P w K mg base cs "_law_cell_at" 1 ["script", "k"] sp0) {f : Addr} {cdv : Value} {A : Around} {outer : List PySem.Env} {sh : Shared} {H : Hp} {E : XK} (hr : Room 1 (A.deeper (envOfC "_law_kinds" (defScope s_L_kinds_3) sh.heap.objs.size f cdv))) :
    VSs (cxOf CX0 P w K mg base ["script", "elders", "kinds", "starts", "k", "near", "at"] "_law_kinds" (defScope s_L_kinds_3) f cdv A outer sh H E).nox cs [] (defBody s_L_kinds_3) (w_L_kinds_3 sp0) :=
  (vss_cons (vs_set 2 (vt_lst vm_nil) sc_L_kinds_3.nd) (vss_cons (vs_set 3 (vt_lst vm_nil) sc_L_kinds_3.nd) (vss_cons (vs_for 4 PassesOwn.never rfl (vi_rng1 rfl (fr _ (by decide)) (va_cons (vp_of (vt_callB call_len cd_len rfl (fr _ (by decide)) boot_more.1 (va_cons (vp_v 1) va_nil))) va_nil)) sc_L_kinds_3.nd (vss_cons (vs_setLc 5 6 rfl sc_L_kinds_3.nd rfl rfl (sw_true rfl rfl rfl (by decide +kernel)) (vi_rng1 rfl (fr _ (by decide)) (va_cons (vp_of (vt_callB call_len cd_len rfl (fr _ (by decide)) boot_more.1 (va_cons (vp_v 1) va_nil))) va_nil)) (blkOk_by (N := ["script", "elders", "kinds", "starts", "k", "near", "at"]) (sc := defScope s_L_kinds_3) (by decide +kernel)) (fun _ _ _ _ _ => pg_name sc_L_kinds_3.nd rfl (Or.inl rfl)) (fun _ _ _ _ _ => (vts_one (vb_cmp (op_eq2 hr.units) od_eq (vp_ix (vp_v 1) (vp_v 6)) (vp_v 4) (nomark _)))) (fun _ _ _ _ _ => (vt_tk (vp_v 6)))) (vss_cons (vs_app 2 (pe_bm PySem.F.plainAttrs_list PySem.F.slot_list_append PySem.F.type_list_append mt_append (pv 2) (pa_cons (VT.run vt_str) pa_nil))) (vss_cons (vs_app 3 (pe_bm PySem.F.plainAttrs_list PySem.F.slot_list_append PySem.F.type_list_append mt_append (pv 3) (pa_cons (VT.run (vt_neg (vp_of vt_int))) pa_nil))) (vss_one (vs_if (VW.vb (vw_and (vb_cmp (op_ne2 hr.units) od_ne (vp_v 5) (vp_of (vt_lst vm_nil)) (nomark _)) (vw_and1 (vb_cmp (op_eq2 hr.units) od_eq (vp_of (vt_op op_mod od_mod (vp_of (vt_op op_add5 od_addG (vp_of (vt_op op_fdivW od_fdiv (vp_of (vt_fn kn0 (hr.mono (by decide)) rfl (va_cons (vp_v 0) (va_cons (vp_v 4) va_nil)))) (vp_of vt_int))) (vp_v 4))) (vp_of vt_int))) (vp_of vt_int) (nomark _))))) (vss_one (vs_pset vt_str (pa_v 2) (vp_v 4))) (vss_one (vs_if (vb_cmp (op_ne2 hr.units) od_ne (vp_v 5) (vp_of (vt_lst vm_nil)) (nomark _)) (vss_cons (vs_pset vt_str (pa_v 2) (vp_v 4)) (vss_one (vs_pset (vt_tk (vp_ix (vp_v 5) (vp_of (vt_op op_mod od_mod (vp_of (vt_op op_fdivW od_fdiv (vp_of (vt_fn kn0 (hr.mono (by decide)) rfl (va_cons (vp_v 0) (va_cons (vp_v 4) va_nil)))) (vp_of vt_int))) (vp_of (vt_callB call_len cd_len rfl (fr _ (by decide)) boot_more.1 (va_cons (vp_v 5) va_nil))))))) (pa_v 3) (vp_v 4)))) vss_nil)))))))) (vss_one (vs_rettup (vm_mv 2 (vm_mv 3 vm_nil)))))))
theorem kn_L_kinds_3 {sp0 : SpD} (hC : CsOk K cs) (hcf : ∀ ci ∈ cs, ci.fields = fieldsOf ci.name) (fr : Free mg frees) (gc_DEEPEST : ∃ t, mg "DEEPEST" = some (.int 12 t)) (gc_FIGURES : ∃ t, mg "FIGURES" = some (.str "0123456789" t)) (gc_LETTERS : ∃ t, mg "LETTERS" = some (.str "abcdefghijklmnopqrstuvwxyz" t)) (gc_WORDS : ∃ a, mg "WORDS" = some (.ref a) ∧ TupS K a ["all", "and", "box", "call", "do", "far", "if", "in", "leaf", "near", "on", "one", "open", "out", "put", "say", "shut", "then", "to"]) (kn0 : Kn P w K mg base cs "_law_cell_at" 1 ["script", "k"] sp0) {f : Addr} {fd : FuncData} (F : Fun K "_law_kinds" "_law_kinds" s_L_kinds_3 f fd) (hm : mg "_law_kinds" = some (.ref f)) (hb : Binds K fd ["script", "elders"] []) {s : SpD} (hl : ∀ ds Q, s ds Q → ds.length = 2)
    (hd : ∀ ds Q, s ds Q → w_L_kinds_3 sp0 { nx := fun _ => Q .non, rt := fun d _ => Q d } (env0 7 ds)) : Kn P w K mg base cs "_law_kinds" 2 ["script", "elders"] s :=
  ⟨f, fd, fn_pure F sc_L_kinds_3 hl (fun _ _ _ _ _ _ hr => vs_L_kinds_3 hC hcf fr gc_DEEPEST gc_FIGURES gc_LETTERS gc_WORDS kn0 hr) hd, hm, F.kp, hb⟩
abbrev s_L_names : Stmt := top 35
theorem sc_L_names : FnScope ["cell", "many", "size", "at", "codes", "names", "k", "code"] ["cell", "many"] (defScope s_L_names) := ⟨rfl, rfl, rfl, by decide +kernel, rfl, by decide +kernel, by decide +kernel⟩
theorem vs_L_names (hC : CsOk K cs) (hcf : ∀ ci ∈ cs, ci.fields = fieldsOf ci.name) (fr : Free mg frees) (gc_DEEPEST : ∃ t, mg "DEEPEST" = some (.int 12 t)) (gc_FIGURES : ∃ t, mg "FIGURES" = some (.str "0123456789" t)) (gc_LETTERS : ∃ t, mg "LETTERS" = some (.str "abcdefghijklmnopqrstuvwxyz" t)) (gc_WORDS : ∃ a, mg "WORDS" = some (.ref a) ∧ TupS K a ["all", "and", "box", "call", "do", "far", "if", "in", "leaf", "near", "on", "one", "open", "out", "put", "say", "shut", "then", "to"]) {f : Addr} {cdv : Value} {A : Around} {outer : List PySem.Env} {sh : Shared} {H : Hp} {E : XK} (hr : Room 0 (A.deeper (envOfC "_law_names" (defScope s_L_names) sh.heap.objs.size f cdv))) :
    VSs (cxOf CX0 P w K mg base ["cell", "many", "size", "at", "codes", "names", "k", "code"] "_law_names" (defScope s_L_names) f cdv A outer sh H E).nox cs [] (defBody s_L_names) (w_L_names) :=
  (vss_cons (vs_set 2 (vt_op op_add5 od_addG (vp_of vt_int) (vp_of (vt_op op_mod od_mod (vp_v 0) (vp_of vt_int)))) sc_L_names.nd) (vss_cons (vs_set 3 (vt_op op_mod od_mod (vp_of (vt_op op_fdivW od_fdiv (vp_v 0) (vp_of vt_int))) (vp_of (vt_op op_sub od_sub (vp_v 2) (vp_of vt_int)))) sc_L_names.nd) (vss_cons (vs_set 4 vt_str sc_L_names.nd) (vss_cons (vs_set 5 (vt_lst vm_nil) sc_L_names.nd) (vss_cons (vs_for 6 PassesOwn.never rfl (vi_rng1 rfl (fr _ (by decide)) (va_cons (vp_v 1) va_nil)) sc_L_names.nd (vss_cons (vs_set 7 (vt_op op_add5 od_addG (vp_ix (vp_v 4) (vp_of (vt_op op_mod od_mod (vp_v 6) (vp_of vt_int)))) (vp_of (vt_callTy call_str_int cd_str rfl (fr _ (by decide)) boot_tys.2.2.1 (va_cons (vp_of (vt_op op_mod od_mod (vp_of (vt_op op_add5 od_addG (vp_of (vt_op op_fdivW od_fdiv (vp_v 6) (vp_of vt_int))) (vp_of (vt_op op_fdivW od_fdiv (vp_v 0) (vp_of vt_int))))) (vp_of vt_int))) va_nil)))) sc_L_names.nd) (vss_one (vs_app 5 (pe_bm PySem.F.plainAttrs_list PySem.F.slot_list_append PySem.F.type_list_append mt_append (pv 5) (pa_cons (VT.run (vt_op op_add5 od_addG (vp_of (vt_op op_add5 od_addG (vp_of (vt_sl (vp_of vt_str) vo_no (vo_some (vp_v 3)))) (vp_v 7))) (vp_of (vt_sl (vp_of vt_str) vo_no (vo_some (vp_of (vt_op op_sub od_sub (vp_of (vt_op op_sub od_sub (vp_v 2) (vp_v 3))) (vp_of vt_int)))))))) pa_nil)))))) (vss_one (vs_retv 5)))))))
theorem kn_L_names (hC : CsOk K cs) (hcf : ∀ ci ∈ cs, ci.fields = fieldsOf ci.name) (fr : Free mg frees) (gc_DEEPEST : ∃ t, mg "DEEPEST" = some (.int 12 t)) (gc_FIGURES : ∃ t, mg "FIGURES" = some (.str "0123456789" t)) (gc_LETTERS : ∃ t, mg "LETTERS" = some (.str "abcdefghijklmnopqrstuvwxyz" t)) (gc_WORDS : ∃ a, mg "WORDS" = some (.ref a) ∧ TupS K a ["all", "and", "box", "call", "do", "far", "if", "in", "leaf", "near", "on", "one", "open", "out", "put", "say", "shut", "then", "to"]) {f : Addr} {fd : FuncData} (F : Fun K "_law_names" "_law_names" s_L_names f fd) (hm : mg "_law_names" = some (.ref f)) (hb : Binds K fd ["cell", "many"] []) {s : SpD} (hl : ∀ ds Q, s ds Q → ds.length = 2)
    (hd : ∀ ds Q, s ds Q → w_L_names { nx := fun _ => Q .non, rt := fun d _ => Q d } (env0 8 ds)) : Kn P w K mg base cs "_law_names" 1 ["cell", "many"] s :=
  ⟨f, fd, fn_pure F sc_L_names hl (fun _ _ _ _ _ _ hr => vs_L_names hC hcf fr gc_DEEPEST gc_FIGURES gc_LETTERS gc_WORDS hr) hd, hm, F.kp, hb⟩
abbrev s_L_far_2 : Stmt := top 36
theorem sc_L_far_2 : FnScope ["cell", "some"] ["cell"] (defScope s_L_far_2) := ⟨rfl, rfl, rfl, by decide +kernel, rfl, by decide +kernel, by decide +kernel⟩
theorem vs_L_far_2 (hC : CsOk K cs) (hcf : ∀ ci ∈ cs, ci.fields = fieldsOf ci.name) (fr : Free mg frees) (gc_DEEPEST : ∃ t, mg "DEEPEST" = some (.int 12 t)) (gc_FIGURES : ∃ t, mg "FIGURES" = some (.str "0123456789" t)) (gc_LETTERS : ∃ t, mg "LETTERS" = some (.str "abcdefghijklmnopqrstuvwxyz" t)) (gc_WORDS : ∃ a, mg "WORDS" = some (.ref a) ∧ TupS K a ["all", "and", "box", "call", "do", "far", "if", "in", "leaf", "near", "on", "one", "open", "out", "put", "say", "shut", "then", "to"]) {f : Addr} {cdv : Value} {A : Around} {outer : List PySem.Env} {sh : Shared} {H : Hp} {E : XK} (hr : Room 0 (A.deeper (envOfC "_law_far" (defScope s_L_far_2) sh.heap.objs.size f cdv))) :
    VSs (cxOf CX0 P w K mg base ["cell", "some"] "_law_far" (defScope s_L_far_2) f cdv A outer sh H E).nox cs [] (defBody s_L_far_2) (w_L_far_2) :=
  (vss_cons (vs_set 1 (vt_lst (vm_cons vt_int (vm_cons (vt_op op_sub od_sub (vp_of (vt_op op_mod od_mod (vp_of (vt_op op_fdivW od_fdiv (vp_v 0) (vp_of vt_int))) (vp_of (vt_op op_sub od_sub (vp_of (vt_op op_mul od_mul (vp_of vt_int) (vp_of (vt_op op_pow od_pow (vp_of vt_int) (vp_of vt_int))))) (vp_of vt_int))))) (vp_of (vt_op op_sub od_sub (vp_of (vt_op op_pow od_pow (vp_of vt_int) (vp_of vt_int))) (vp_of vt_int)))) (vm_cons (vt_op op_sub od_sub (vp_of (vt_op op_pow od_pow (vp_of vt_int) (vp_of vt_int))) (vp_of vt_int)) (vm_cons (vt_op op_sub od_sub (vp_of vt_int) (vp_of (vt_op op_pow od_pow (vp_of vt_int) (vp_of vt_int)))) vm_nil))))) sc_L_far_2.nd) (vss_one (vs_ret (vt_tk (vp_ix (vp_v 1) (vp_of (vt_op op_mod od_mod (vp_v 0) (vp_of vt_int))))))))
theorem kn_L_far_2 (hC : CsOk K cs) (hcf : ∀ ci ∈ cs, ci.fields = fieldsOf ci.name) (fr : Free mg frees) (gc_DEEPEST : ∃ t, mg "DEEPEST" = some (.int 12 t)) (gc_FIGURES : ∃ t, mg "FIGURES" = some (.str "0123456789" t)) (gc_LETTERS : ∃ t, mg "LETTERS" = some (.str "abcdefghijklmnopqrstuvwxyz" t)) (gc_WORDS : ∃ a, mg "WORDS" = some (.ref a) ∧ TupS K a ["all", "and", "box", "call", "do", "far", "if", "in", "leaf", "near", "on", "one", "open", "out", "put", "say", "shut", "then", "to"]) {f : Addr} {fd : FuncData} (F : Fun K "_law_far" "_law_far" s_L_far_2 f fd) (hm : mg "_law_far" = some (.ref f)) (hb : Binds K fd ["cell"] []) {s : SpD} (hl : ∀ ds Q, s ds Q → ds.length = 1)
    (hd : ∀ ds Q, s ds Q → w_L_far_2 { nx := fun _ => Q .non, rt := fun d _ => Q d } (env0 2 ds)) : Kn P w K mg base cs "_law_far" 1 ["cell"] s :=
  ⟨f, fd, fn_pure F sc_L_far_2 hl (fun _ _ _ _ _ _ hr => vs_L_far_2 hC hcf fr gc_DEEPEST gc_FIGURES gc_LETTERS gc_WORDS hr) hd, hm, F.kp, hb⟩
abbrev s_L_term_3 : Stmt := top 37
theorem sc_L_term_3 : FnScope ["cell", "many"] ["cell", "many"] (defScope s_L_term_3) := ⟨rfl, rfl, rfl, by decide +kernel, rfl, by decide +kernel, by decide +kernel⟩
theorem vs_L_term_3 {sp0 : SpD} (hC : CsOk K cs) (hcf : ∀ ci ∈ cs, ci.fields = fieldsOf ci.name) (fr : Free mg frees) (gc_DEEPEST : ∃ t, mg "DEEPEST" = some (.int 12 t)) (gc_FIGURES : ∃ t, mg "FIGURES" = some (.str "0123456789" t)) (gc_LETTERS : ∃ t, mg "LETTERS" = some (.str "abcdefghijklmnopqrstuvwxyz" t)) (gc_WORDS : ∃ a, mg "WORDS" = some (.ref a) ∧ TupS K a ["all", "and", "box", "call", "do", "far", "if", "in", "leaf", "near", "on", "one", "open", "out", "put", "say", "shut", "then", "to"]) (kn0 : Kn P w K mg base cs "_law_far" 1 ["cell"] sp0) {f : Addr} {cdv : Value} {A : Around} {outer : List PySem.Env} {sh : Shared} {H : Hp} {E : XK} (hr : Room 1 (A.deeper (envOfC "_law_term" (defScope s_L_term_3) sh.heap.objs.size f cdv))) :
    VSs (cxOf CX0 P w K mg base ["cell", "many"] "_law_term" (defScope s_L_term_3) f cdv A outer sh H E).nox cs [] (defBody s_L_term_3) (w_L_term_3 sp0) :=
  (vss_one (vs_ret (vt_tup (vm_cons (vt_op op_sub od_sub (vp_of (vt_op op_mod od_mod (vp_v 0) (vp_of (vt_op op_add5 od_addG (vp_v 1) (vp_of vt_int))))) (vp_of vt_int)) (vm_cons (vt_fn kn0 (hr.mono (by decide)) rfl (va_cons (vp_of (vt_op op_fdivW od_fdiv (vp_v 0) (vp_of (vt_op op_add5 od_addG (vp_v 1) (vp_of vt_int))))) va_nil)) vm_nil)))))
theorem kn_L_term_3 {sp0 : SpD} (hC : CsOk K cs) (hcf : ∀ ci ∈ cs, ci.fields = fieldsOf ci.name) (fr : Free mg frees) (gc_DEEPEST : ∃ t, mg "DEEPEST" = some (.int 12 t)) (gc_FIGURES : ∃ t, mg "FIGURES" = some (.str "0123456789" t)) (gc_LETTERS : ∃ t, mg "LETTERS" = some (.str "abcdefghijklmnopqrstuvwxyz" t)) (gc_WORDS : ∃ a, mg "WORDS" = some (.ref a) ∧ TupS K a ["all", "and", "box", "call", "do", "far", "if", "in", "leaf", "near", "on", "one", "open", "out", "put", "say", "shut", "then", "to"]) (kn0 : Kn P w K mg base cs "_law_far" 1 ["cell"] sp0) {f : Addr} {fd : FuncData} (F : Fun K "_law_term" "_law_term" s_L_term_3 f fd) (hm : mg "_law_term" = some (.ref f)) (hb : Binds K fd ["cell", "many"] []) {s : SpD} (hl : ∀ ds Q, s ds Q → ds.length = 2)
    (hd : ∀ ds Q, s ds Q → w_L_term_3 sp0 { nx := fun _ => Q .non, rt := fun d _ => Q d } (env0 2 ds)) : Kn P w K mg base cs "_law_term" 2 ["cell", "many"] s :=
  ⟨f, fd, fn_pure F sc_L_term_3 hl (fun _ _ _ _ _ _ hr => vs_L_term_3 hC hcf fr gc_DEEPEST gc_FIGURES gc_LETTERS gc_WORDS kn0 hr) hd, hm, F.kp, hb⟩
abbrev s_L_deed_2 : Stmt := top 38
theorem sc_L_deed_2 : FnScope ["cell", "many", "name", "way"] ["cell", "many", "name"] (defScope s_L_deed_2) := ⟨rfl, rfl, rfl, by decide +kernel, rfl, by decide +kernel, by decide +kernel⟩
theorem vs_L_deed_2 {sp0 : SpD} (hC : CsOk K cs) (hcf : ∀ ci ∈ cs, ci.fields = fieldsOf ci.name) (fr : Free mg frees) (gc_DEEPEST : ∃ t, mg "DEEPEST" = some (.int 12 t)) (gc_FIGURES : ∃ t, mg "FIGURES" = some (.str "0123456789" t)) (gc_LETTERS : ∃ t, mg "LETTERS" = some (.str "abcdefghijklmnopqrstuvwxyz" t)) (gc_WORDS : ∃ a, mg "WORDS" = some (.ref a) ∧ TupS K a ["all", "and", "box", "call", "do", "far", "if", "in", "leaf", "near", "on", "one", "open", "out", "put", "say", "shut", "then", "to"]) (kn0 : Kn P w K mg base cs "_law_term" 2 ["cell", "many"] sp0) {f : Addr} {cdv : Value} {A : Around} {outer : List PySem.Env} {sh : Shared} {H : Hp} {E : XK} (hr : Room 2 (A.deeper (envOfC "_law_deed" (defScope s_L_deed_2) sh.heap.objs.size f cdv))) :
    VSs (cxOf CX0 P w K mg base ["cell", "many", "name", "way"] "_law_deed" (defScope s_L_deed_2) f cdv A outer sh H E).nox cs [] (defBody s_L_deed_2) (w_L_deed_2 sp0) :=
  (vss_cons (vs_set 3 (vt_op op_mod od_mod (vp_v 0) (vp_of vt_int)) sc_L_deed_2.nd) (vss_cons (vs_set 0 (vt_op op_fdivW od_fdiv (vp_v 0) (vp_of vt_int)) sc_L_deed_2.nd) (vss_cons (vs_if (VW.vb (vw_and (vb_cmp (op_eq2 hr.units) od_eq (vp_v 3) (vp_of vt_int) (nomark _)) (vw_and1 (vb_cmp op_gt od_cmp (vp_v 1) (vp_of vt_int) (nomark _))))) (vss_one (vs_ret (vt_tup (vm_cons vt_str (vm_cons (vt_op op_mod od_mod (vp_v 0) (vp_v 1)) (vm_cons (vt_fn kn0 (hr.mono (by decide)) rfl (va_cons (vp_of (vt_op op_fdivW od_fdiv (vp_v 0) (vp_v 1))) (va_cons (vp_v 1) va_nil))) vm_nil)))))) vss_nil) (vss_cons (vs_if (vb_cmp (op_eq2 hr.units) od_eq (vp_v 3) (vp_of vt_int) (nomark _)) (vss_one (vs_ret (vt_tup (vm_cons vt_str (vm_cons (vt_tk (vp_v 2)) (vm_cons (vt_fn kn0 (hr.mono (by decide)) rfl (va_cons (vp_v 0) (va_cons (vp_v 1) va_nil))) vm_nil)))))) vss_nil) (vss_one (vs_ret (vt_tup (vm_cons vt_str (vm_cons (vt_tk (vp_v 2)) vm_nil)))))))))
theorem kn_L_deed_2 {sp0 : SpD} (hC : CsOk K cs) (hcf : ∀ ci ∈ cs, ci.fields = fieldsOf ci.name) (fr : Free mg frees) (gc_DEEPEST : ∃ t, mg "DEEPEST" = some (.int 12 t)) (gc_FIGURES : ∃ t, mg "FIGURES" = some (.str "0123456789" t)) (gc_LETTERS : ∃ t, mg "LETTERS" = some (.str "abcdefghijklmnopqrstuvwxyz" t)) (gc_WORDS : ∃ a, mg "WORDS" = some (.ref a) ∧ TupS K a ["all", "and", "box", "call", "do", "far", "if", "in", "leaf", "near", "on", "one", "open", "out", "put", "say", "shut", "then", "to"]) (kn0 : Kn P w K mg base cs "_law_term" 2 ["cell", "many"] sp0) {f : Addr} {fd : FuncData} (F : Fun K "_law_deed" "_law_deed" s_L_deed_2 f fd) (hm : mg "_law_deed" = some (.ref f)) (hb : Binds K fd ["cell", "many", "name"] []) {s : SpD} (hl : ∀ ds Q, s ds Q → ds.length = 3)
    (hd : ∀ ds Q, s ds Q → w_L_deed_2 sp0 { nx := fun _ => Q .non, rt := fun d _ => Q d } (env0 4 ds)) : Kn P w K mg base cs "_law_deed" 3 ["cell", "many", "name"] s :=
  ⟨f, fd, fn_pure F sc_L_deed_2 hl (fun _ _ _ _ _ _ hr => vs_L_deed_2 hC hcf fr gc_DEEPEST gc_FIGURES gc_LETTERS gc_WORDS kn0 hr) hd, hm, F.kp, hb⟩
abbrev s_L_rows_3 : Stmt := top 42
theorem sc_L_rows_3 : FnScope ["script", "many", "names", "by", "rows", "k", "cell", "j"] ["script", "many", "names", "by"] (defScope s_L_rows_3) := ⟨rfl, rfl, rfl, by decide +kernel, rfl, by decide +kernel, by decide +kernel⟩
theorem vs_L_rows_3 {sp0 : SpD} {sp1 : SpD} (hC : CsOk K cs) (hcf : ∀ ci ∈ cs, ci.fields = fieldsOf ci.name) (fr : Free mg frees) (gc_DEEPEST : ∃ t, mg "DEEPEST" = some (.int 12 t)) (gc_FIGURES : ∃ t, mg "FIGURES" = some (.str "0123456789" t)) (gc_LETTERS : ∃ t, mg "LETTERS" = some (.str "abcdefghijklmnopqrstuvwxyz" t)) (gc_WORDS : ∃ a, mg "WORDS" = some (.ref a) ∧ TupS K a ["all", "and", "box", "call", "do", "far", "if", "in", "leaf", "near", "on", "one", "open", "out", "put", "say", "shut", "then", "to"]) (kn0 : Kn P w K mg base cs "_law_cell_at" 1 ["script", "k"] sp0) (kn1 : Kn P w K mg base cs "_law_deed" 3 ["cell", "many", "name"] sp1) {f : Addr} {cdv : Value} {A : Around} {outer : List PySem.Env} {sh : Shared} {H : Hp} {E : XK} (hr : Room 3 (A.deeper (envOfC "_law_rows" (defScope s_L_rows_3) sh.heap.objs.size f cdv))) :
    VSs (cxOf CX0 P w K mg base ["script", "many", "names", "by", "rows", "k", "cell", "j"] "_law_rows" (defScope s_L_rows_3) f cdv A outer sh H E).nox cs [] (defBody s_L_rows_3) (w_L_rows_3 sp0 sp1) :=
  (vss_cons (vs_set 4 (vt_lst vm_nil) sc_L_rows_3.nd) (vss_cons (vs_for 5 PassesOwn.never rfl (vi_rng1 rfl (fr _ (by decide)) (va_cons (vp_of (vt_callB call_len cd_len rfl (fr _ (by decide)) boot_more.1 (va_cons (vp_v 2) va_nil))) va_nil)) sc_L_rows_3.nd (vss_cons (vs_set 6 (vt_op op_fdivW od_fdiv (vp_of (vt_op op_mod od_mod (vp_of (vt_fn kn0 (hr.mono (by decide)) rfl (va_cons (vp_v 0) (va_cons (vp_of (vt_op op_add5 od_addG (vp_of vt_int) (vp_v 5))) va_nil)))) (vp_of (vt_op op_pow od_pow (vp_of vt_int) (vp_of vt_int))))) (vp_v 3)) sc_L_rows_3.nd) (vss_one (vs_app 4 (pe_bm PySem.F.plainAttrs_list PySem.F.slot_list_append PySem.F.type_list_append mt_append (pv 4) (pa_cons (VT.run (vt_callTy call_tuple_of cd_tuple rfl (fr _ (by decide)) boot_tys.2.2.2.2.1 (va_cons (vp_of (vt_lc 7 rfl sc_L_rows_3.nd (vi_rng1 rfl (fr _ (by decide)) (va_cons (vp_of (vt_op op_mod od_mod (vp_v 6) (vp_of vt_int))) va_nil)) (blkOk_by (N := ["script", "many", "names", "by", "rows", "k", "cell", "j"]) (sc := defScope s_L_rows_3) (by decide +kernel)) (fun _ _ _ _ _ => pg_name sc_L_rows_3.nd rfl (Or.inl rfl)) (fun _ _ _ _ _ => vts_nil) (fun _ _ _ _ _ => (vt_fn kn1 (hr.mono (by decide)) rfl (va_cons (vp_of (vt_op op_fdivW od_fdiv (vp_v 6) (vp_of (vt_op op_add5 od_addG (vp_of vt_int) (vp_v 7))))) (va_cons (vp_v 1) (va_cons (vp_ix (vp_v 2) (vp_v 5)) va_nil))))))) va_nil))) pa_nil)))))) (vss_one (vs_retv 4))))
theorem kn_L_rows_3 {sp0 : SpD} {sp1 : SpD} (hC : CsOk K cs) (hcf : ∀ ci ∈ cs, ci.fields = fieldsOf ci.name) (fr : Free mg frees) (gc_DEEPEST : ∃ t, mg "DEEPEST" = some (.int 12 t)) (gc_FIGURES : ∃ t, mg "FIGURES" = some (.str "0123456789" t)) (gc_LETTERS : ∃ t, mg "LETTERS" = some (.str "abcdefghijklmnopqrstuvwxyz" t)) (gc_WORDS : ∃ a, mg "WORDS" = some (.ref a) ∧ TupS K a ["all", "and", "box", "call", "do", "far", "if", "in", "leaf", "near", "on", "one", "open", "out", "put", "say", "shut", "then", "to"]) (kn0 : Kn P w K mg base cs "_law_cell_at" 1 ["script", "k"] sp0) (kn1 : Kn P w K mg base cs "_law_deed" 3 ["cell", "many", "name"] sp1) {f : Addr} {fd : FuncData} (F : Fun K "_law_rows" "_law_rows" s_L_rows_3 f fd) (hm : mg "_law_rows" = some (.ref f)) (hb : Binds K fd ["script", "many", "names", "by"] []) {s : SpD} (hl : ∀ ds Q, s ds Q → ds.length = 4)
    (hd : ∀ ds Q, s ds Q → w_L_rows_3 sp0 sp1 { nx := fun _ => Q .non, rt := fun d _ => Q d } (env0 8 ds)) : Kn P w K mg base cs "_law_rows" 4 ["script", "many", "names", "by"] s :=
  ⟨f, fd, fn_pure F sc_L_rows_3 hl (fun _ _ _ _ _ _ hr => vs_L_rows_3 hC hcf fr gc_DEEPEST gc_FIGURES gc_LETTERS gc_WORDS kn0 kn1 hr) hd, hm, F.kp, hb⟩
abbrev s_L_ask_3 : Stmt := top 39
theorem sc_L_ask_3 : FnScope ["cell", "many", "moods", "way", "one"] ["cell", "many", "moods"] (defScope s_L_ask_3) := ⟨rfl, rfl, rfl, by decide +kernel, rfl, by decide +kernel, by decide +kernel⟩
theorem vs_L_ask_3 {sp0 : SpD} (hC : CsOk K cs) (hcf : ∀ ci ∈ cs, ci.fields = fieldsOf ci.name) (fr : Free mg frees) (gc_DEEPEST : ∃ t, mg "DEEPEST" = some (.int 12 t)) (gc_FIGURES : ∃ t, mg "FIGURES" = some (.str "0123456789" t)) (gc_LETTERS : ∃ t, mg "LETTERS" = some (.str "abcdefghijklmnopqrstuvwxyz" t)) (gc_WORDS : ∃ a, mg "WORDS" = some (.ref a) ∧ TupS K a ["all", "and", "box", "call", "do", "far", "if", "in", "leaf", "near", "on", "one", "open", "out", "put", "say", "shut", "then", "to"]) (kn0 : Kn P w K mg base cs "_law_term" 2 ["cell", "many"] sp0) {f : Addr} {cdv : Value} {A : Around} {outer : List PySem.Env} {sh : Shared} {H : Hp} {E : XK} (hr : Room 2 (A.deeper (envOfC "_law_ask" (defScope s_L_ask_3) sh.heap.objs.size f cdv))) :
    VSs (cxOf CX0 P w K mg base ["cell", "many", "moods", "way", "one"] "_law_ask" (defScope s_L_ask_3) f cdv A outer sh H E).nox cs [] (defBody s_L_ask_3) (w_L_ask_3 sp0) :=
  (vss_cons (vs_set 3 (vt_op op_mod od_mod (vp_v 0) (vp_of vt_int)) sc_L_ask_3.nd) (vss_cons (vs_set 0 (vt_op op_fdivW od_fdiv (vp_v 0) (vp_of vt_int)) sc_L_ask_3.nd) (vss_cons (vs_if (vb_cmp op_lt od_cmp (vp_v 3) (vp_of vt_int) (nomark _)) (vss_one (vs_ret (vt_tup (vm_cons (vt_tk (vp_ix (vp_of (vt_lst (vm_cons vt_str (vm_cons vt_str vm_nil)))) (vp_v 3))) (vm_cons (vt_op op_mod od_mod (vp_v 0) (vp_v 2)) vm_nil))))) vss_nil) (vss_cons (vs_set 4 (vt_fn kn0 (hr.mono (by decide)) rfl (va_cons (vp_of (vt_op op_mod od_mod (vp_v 0) (vp_of (vt_op op_pow od_pow (vp_of vt_int) (vp_of vt_int))))) (va_cons (vp_v 1) va_nil))) sc_L_ask_3.nd) (vss_one (vs_rettup (vm_cons (vt_tk (vp_ix (vp_of (vt_lst (vm_cons vt_str (vm_cons vt_str (vm_cons vt_str (vm_cons vt_str vm_nil)))))) (vp_of (vt_op op_sub od_sub (vp_v 3) (vp_of vt_int))))) (vm_mv 4 (vm_cons (vt_fn kn0 (hr.mono (by decide)) rfl (va_cons (vp_of (vt_op op_fdivW od_fdiv (vp_v 0) (vp_of (vt_op op_pow od_pow (vp_of vt_int) (vp_of vt_int))))) (va_cons (vp_v 1) va_nil))) vm_nil)))))))))
theorem kn_L_ask_3 {sp0 : SpD} (hC : CsOk K cs) (hcf : ∀ ci ∈ cs, ci.fields = fieldsOf ci.name) (fr : Free mg frees) (gc_DEEPEST : ∃ t, mg "DEEPEST" = some (.int 12 t)) (gc_FIGURES : ∃ t, mg "FIGURES" = some (.str "0123456789" t)) (gc_LETTERS : ∃ t, mg "LETTERS" = some (.str "abcdefghijklmnopqrstuvwxyz" t)) (gc_WORDS : ∃ a, mg "WORDS" = some (.ref a) ∧ TupS K a ["all", "and", "box", "call", "do", "far", "if", "in", "leaf", "near", "on", "one", "open", "out", "put", "say", "shut", "then", "to"]) (kn0 : Kn P w K mg base cs "_law_term" 2 ["cell", "many"] sp0) {f : Addr} {fd : FuncData} (F : Fun K "_law_ask" "_law_ask" s_L_ask_3 f fd) (hm : mg "_law_ask" = some (.ref f)) (hb : Binds K fd ["cell", "many", "moods"] []) {s : SpD} (hl : ∀ ds Q, s ds Q → ds.length = 3)
    (hd : ∀ ds Q, s ds Q → w_L_ask_3 sp0 { nx := fun _ => Q .non, rt := fun d _ => Q d } (env0 5 ds)) : Kn P w K mg base cs "_law_ask" 3 ["cell", "many", "moods"] s :=
  ⟨f, fd, fn_pure F sc_L_ask_3 hl (fun _ _ _ _ _ _ hr => vs_L_ask_3 hC hcf fr gc_DEEPEST gc_FIGURES gc_LETTERS gc_WORDS kn0 hr) hd, hm, F.kp, hb⟩
abbrev s_L_way_2 : Stmt := top 40
theorem sc_L_way_2 : FnScope ["script", "at", "source", "many", "moods", "name", "cell", "asks", "k", "deeds", "target", "mode"] ["script", "at", "source", "many", "moods", "name"] (defScope s_L_way_2) := ⟨rfl, rfl, rfl, by decide +kernel, rfl, by decide +kernel, by decide +kernel⟩
theorem vs_L_way_2 {sp0 : SpD} {sp1 : SpD} {sp2 : SpD} (hC : CsOk K cs) (hcf : ∀ ci ∈ cs, ci.fields = fieldsOf ci.name) (fr : Free mg frees) (gc_DEEPEST : ∃ t, mg "DEEPEST" = some (.int 12 t)) (gc_FIGURES : ∃ t, mg "FIGURES" = some (.str "0123456789" t)) (gc_LETTERS : ∃ t, mg "LETTERS" = some (.str "abcdefghijklmnopqrstuvwxyz" t)) (gc_WORDS : ∃ a, mg "WORDS" = some (.ref a) ∧ TupS K a ["all", "and", "box", "call", "do", "far", "if", "in", "leaf", "near", "on", "one", "open", "out", "put", "say", "shut", "then", "to"]) (kn0 : Kn P w K mg base cs "_law_cell_at" 1 ["script", "k"] sp0) (kn1 : Kn P w K mg base cs "_law_ask" 3 ["cell", "many", "moods"] sp1) (kn2 : Kn P w K mg base cs "_law_deed" 3 ["cell", "many", "name"] sp2) {f : Addr} {cdv : Value} {A : Around} {outer : List PySem.Env} {sh : Shared} {H : Hp} {E : XK} (hr : Room 3 (A.deeper (envOfC "_law_way" (defScope s_L_way_2) sh.heap.objs.size f cdv))) :
    VSs (cxOf CX0 P w K mg base ["script", "at", "source", "many", "moods", "name", "cell", "asks", "k", "deeds", "target", "mode"] "_law_way" (defScope s_L_way_2) f cdv A outer sh H E).nox cs [] (defBody s_L_way_2) (w_L_way_2 sp0 sp1 sp2) :=
  (vss_cons (vs_set 6 (vt_op op_mod od_mod (vp_of (vt_fn kn0 (hr.mono (by decide)) rfl (va_cons (vp_v 0) (va_cons (vp_v 1) va_nil)))) (vp_of (vt_op op_pow od_pow (vp_of vt_int) (vp_of vt_int)))) sc_L_way_2.nd) (vss_cons (vs_set 7 (vt_lst vm_nil) sc_L_way_2.nd) (vss_cons (vs_for 8 PassesOwn.never rfl (vi_rng1 rfl (fr _ (by decide)) (va_cons (vp_of (vt_op op_mod od_mod (vp_v 6) (vp_of vt_int))) va_nil)) sc_L_way_2.nd (vss_one (vs_app 7 (pe_bm PySem.F.plainAttrs_list PySem.F.slot_list_append PySem.F.type_list_append mt_append (pv 7) (pa_cons (VT.run (vt_fn kn1 (hr.mono (by decide)) rfl (va_cons (vp_of (vt_op op_mod od_mod (vp_of (vt_fn kn0 (hr.mono (by decide)) rfl (va_cons (vp_v 0) (va_cons (vp_of (vt_op op_add5 od_addG (vp_of (vt_op op_add5 od_addG (vp_v 1) (vp_of vt_int))) (vp_v 8))) va_nil)))) (vp_of (vt_op op_pow od_pow (vp_of vt_int) (vp_of vt_int))))) (va_cons (vp_v 3) (va_cons (vp_v 4) va_nil))))) pa_nil))))) (vss_cons (vs_set 9 (vt_lst vm_nil) sc_L_way_2.nd) (vss_cons (vs_for 8 PassesOwn.never rfl (vi_rng1 rfl (fr _ (by decide)) (va_cons (vp_of (vt_op op_mod od_mod (vp_of (vt_op op_fdivW od_fdiv (vp_v 6) (vp_of vt_int))) (vp_of vt_int))) va_nil)) sc_L_way_2.nd (vss_one (vs_app 9 (pe_bm PySem.F.plainAttrs_list PySem.F.slot_list_append PySem.F.type_list_append mt_append (pv 9) (pa_cons (VT.run (vt_fn kn2 (hr.mono (by decide)) rfl (va_cons (vp_of (vt_op op_mod od_mod (vp_of (vt_fn kn0 (hr.mono (by decide)) rfl (va_cons (vp_v 0) (va_cons (vp_of (vt_op op_add5 od_addG (vp_of (vt_op op_add5 od_addG (vp_v 1) (vp_of vt_int))) (vp_v 8))) va_nil)))) (vp_of (vt_op op_pow od_pow (vp_of vt_int) (vp_of vt_int))))) (va_cons (vp_v 3) (va_cons (vp_v 5) va_nil))))) pa_nil))))) (vss_cons (vs_set 10 (vt_op op_sub od_sub (vp_of (vt_op op_mod od_mod (vp_of (vt_op op_fdivW od_fdiv (vp_v 6) (vp_of vt_int))) (vp_of (vt_op op_add5 od_addG (vp_v 4) (vp_of vt_int))))) (vp_of vt_int)) sc_L_way_2.nd) (vss_cons (vs_set 11 (vt_tk (vp_ix (vp_of (vt_lst (vm_cons vt_str (vm_cons vt_str (vm_cons vt_str vm_nil))))) (vp_of (vt_op op_mod od_mod (vp_of (vt_op op_fdivW od_fdiv (vp_of (vt_op op_fdivW od_fdiv (vp_v 6) (vp_of vt_int))) (vp_of (vt_op op_add5 od_addG (vp_v 4) (vp_of vt_int))))) (vp_of vt_int))))) sc_L_way_2.nd) (vss_cons (vs_if (vb_cmp (op_eq2 hr.units) od_eq (vp_v 10) (vp_of (vt_neg (vp_of vt_int))) (nomark _)) (vss_one (vs_set 11 vt_str sc_L_way_2.nd)) vss_nil) (vss_one (vs_rettup (vm_cons (vt_tk (vp_v 2)) (vm_cons (vt_tk (vp_v 5)) (vm_cons (vt_callTy call_tuple_of cd_tuple rfl (fr _ (by decide)) boot_tys.2.2.2.2.1 (va_cons (vp_v 7) va_nil)) (vm_cons (vt_callTy call_tuple_of cd_tuple rfl (fr _ (by decide)) boot_tys.2.2.2.2.1 (va_cons (vp_v 9) va_nil)) (vm_mv 10 (vm_mv 11 vm_nil))))))))))))))))
theorem kn_L_way_2 {sp0 : SpD} {sp1 : SpD} {sp2 : SpD} (hC : CsOk K cs) (hcf : ∀ ci ∈ cs, ci.fields = fieldsOf ci.name) (fr : Free mg frees) (gc_DEEPEST : ∃ t, mg "DEEPEST" = some (.int 12 t)) (gc_FIGURES : ∃ t, mg "FIGURES" = some (.str "0123456789" t)) (gc_LETTERS : ∃ t, mg "LETTERS" = some (.str "abcdefghijklmnopqrstuvwxyz" t)) (gc_WORDS : ∃ a, mg "WORDS" = some (.ref a) ∧ TupS K a ["all", "and", "box", "call", "do", "far", "if", "in", "leaf", "near", "on", "one", "open", "out", "put", "say", "shut", "then", "to"]) (kn0 : Kn P w K mg base cs "_law_cell_at" 1 ["script", "k"] sp0) (kn1 : Kn P w K mg base cs "_law_ask" 3 ["cell", "many", "moods"] sp1) (kn2 : Kn P w K mg base cs "_law_deed" 3 ["cell", "many", "name"] sp2) {f : Addr} {fd : FuncData} (F : Fun K "_law_way" "_law_way" s_L_way_2 f fd) (hm : mg "_law_way" = some (.ref f)) (hb : Binds K fd ["script", "at", "source", "many", "moods", "name"] []) {s : SpD} (hl : ∀ ds Q, s ds Q → ds.length = 6)
    (hd : ∀ ds Q, s ds Q → w_L_way_2 sp0 sp1 sp2 { nx := fun _ => Q .non, rt := fun d _ => Q d } (env0 12 ds)) : Kn P w K mg base cs "_law_way" 4 ["script", "at", "source", "many", "moods", "name"] s :=
  ⟨f, fd, fn_pure F sc_L_way_2 hl (fun _ _ _ _ _ _ hr => vs_L_way_2 hC hcf fr gc_DEEPEST gc_FIGURES gc_LETTERS gc_WORDS kn0 kn1 kn2 hr) hd, hm, F.kp, hb⟩
abbrev s_L_partsM : Stmt := top 43
theorem sc_L_partsM : FnScope ["script", "shape", "moods", "elders", "both", "names", "many", "ahead", "boxes", "k", "ins", "outs", "sources", "ways"] ["script"] (defScope s_L_partsM) := ⟨rfl, rfl, rfl, by decide +kernel, rfl, by decide +kernel, by decide +kernel⟩
theorem vs_L_partsM {sp0 : SpD} {sp1 : SpD} {sp2 : SpD} {sp3 : SpD} {sp4 : SpD} {sp5 : SpD} {sp6 : SpD} (hC : CsOk K cs) (hcf : ∀ ci ∈ cs, ci.fields = fieldsOf ci.name) (fr : Free mg frees) (gc_DEEPEST : ∃ t, mg "DEEPEST" = some (.int 12 t)) (gc_FIGURES : ∃ t, mg "FIGURES" = some (.str "0123456789" t)) (gc_LETTERS : ∃ t, mg "LETTERS" = some (.str "abcdefghijklmnopqrstuvwxyz" t)) (gc_WORDS : ∃ a, mg "WORDS" = some (.ref a) ∧ TupS K a ["all", "and", "box", "call", "do", "far", "if", "in", "leaf", "near", "on", "one", "open", "out", "put", "say", "shut", "then", "to"]) (kn0 : Kn P w K mg base cs "_law_cell_at" 1 ["script", "k"] sp0) (kn1 : Kn P w K mg base cs "_law_elders" 2 ["script", "many"] sp1) (kn2 : Kn P w K mg base cs "_law_kinds" 2 ["script", "elders"] sp2) (kn3 : Kn P w K mg base cs "_law_names" 1 ["cell", "many"] sp3) (kn4 : Kn P w K mg base cs "_law_far" 1 ["cell"] sp4) (kn5 : Kn P w K mg base cs "_law_rows" 4 ["script", "many", "names", "by"] sp5) (kn6 : Kn P w K mg base cs "_law_way" 4 ["script", "at", "source", "many", "moods", "name"] sp6) {f : Addr} {cdv : Value} {A : Around} {outer : List PySem.Env} {sh : Shared} {H : Hp} {E : XK} (hr : Room 4 (A.deeper (envOfC "_law_parts" (defScope s_L_partsM) sh.heap.objs.size f cdv))) :
    VSs (cxOf CX0 P w K mg base ["script", "shape", "moods", "elders", "both", "names", "many", "ahead", "boxes", "k", "ins", "outs", "sources", "ways"] "_law_parts" (defScope s_L_partsM) f cdv A outer sh H E).nox cs [] (defBody s_L_partsM) (w_L_partsM sp0 sp1 sp2 sp3 sp4 sp5 sp6) :=
  (vss_cons (vs_set 0 (vt_sl (vp_v 0) vo_no (vo_some (vp_of vt_int))) sc_L_partsM.nd) (vss_cons (vs_set 1 (vt_op op_mod od_mod (vp_of (vt_fn kn0 (hr.mono (by decide)) rfl (va_cons (vp_v 0) (va_cons (vp_of vt_int) va_nil)))) (vp_of (vt_op op_pow od_pow (vp_of vt_int) (vp_of vt_int)))) sc_L_partsM.nd) (vss_cons (vs_set 2 (vt_op op_add5 od_addG (vp_of vt_int) (vp_of (vt_op op_mod od_mod (vp_v 1) (vp_of vt_int)))) sc_L_partsM.nd) (vss_cons (vs_if (vb_cmp (op_eq2 hr.units) od_eq (vp_of (vt_op op_mod od_mod (vp_of (vt_op op_fdivW od_fdiv (vp_v 1) (vp_of vt_int))) (vp_of vt_int))) (vp_of vt_int) (nomark _)) (vss_one (vs_set 2 (vt_op op_add5 od_addG (vp_of vt_int) (vp_of (vt_op op_mod od_mod (vp_of (vt_op op_fdivW od_fdiv (vp_v 1) (vp_of vt_int))) (vp_of vt_int)))) sc_L_partsM.nd)) vss_nil) (vss_cons (vs_set 3 (vt_fn kn1 (hr.mono (by decide)) rfl (va_cons (vp_v 0) (va_cons (vp_v 2) va_nil))) sc_L_partsM.nd) (vss_cons (vs_set 4 (vt_fn kn2 (hr.mono (by decide)) rfl (va_cons (vp_v 0) (va_cons (vp_v 3) va_nil))) sc_L_partsM.nd) (vss_cons (vs_set 5 (vt_fn kn3 (hr.mono (by decide)) rfl (va_cons (vp_of (vt_op op_mod od_mod (vp_of (vt_fn kn0 (hr.mono (by decide)) rfl (va_cons (vp_v 0) (va_cons (vp_of vt_int) va_nil)))) (vp_of (vt_op op_pow od_pow (vp_of vt_int) (vp_of vt_int))))) (va_cons (vp_v 2) va_nil))) sc_L_partsM.nd) (vss_cons (vs_set 6 (vt_op op_mod od_mod (vp_of (vt_op op_fdivW od_fdiv (vp_v 1) (vp_of vt_int))) (vp_of vt_int)) sc_L_partsM.nd) (vss_cons (vs_set 7 (vt_sl (vp_of vt_str) vo_no (vo_some (vp_of (vt_op op_mod od_mod (vp_of (vt_op op_fdivW od_fdiv (vp_v 1) (vp_of vt_int))) (vp_of vt_int))))) sc_L_partsM.nd) (vss_cons (vs_setLc 8 9 rfl sc_L_partsM.nd rfl rfl (sw_true rfl rfl rfl (by decide +kernel)) (vi_rng1 rfl (fr _ (by decide)) (va_cons (vp_v 6) va_nil)) (blkOk_by (N := ["script", "shape", "moods", "elders", "both", "names", "many", "ahead", "boxes", "k", "ins", "outs", "sources", "ways"]) (sc := defScope s_L_partsM) (by decide +kernel)) (fun _ _ _ _ _ => pg_name sc_L_partsM.nd rfl (Or.inl rfl)) (fun _ _ _ _ _ => vts_nil) (fun _ _ _ _ _ => (vt_tup (vm_cons (vt_op op_add5 od_addG (vp_of (vt_op op_add5 od_addG (vp_v 7) (vp_of vt_str))) (vp_of (vt_callTy call_str_int cd_str rfl (fr _ (by decide)) boot_tys.2.2.1 (va_cons (vp_v 9) va_nil)))) (vm_cons (vt_fn kn4 (hr.mono (by decide)) rfl (va_cons (vp_of (vt_fn kn0 (hr.mono (by decide)) rfl (va_cons (vp_v 0) (va_cons (vp_of (vt_op op_add5 od_addG (vp_of vt_int) (vp_v 9))) va_nil)))) va_nil)) vm_nil))))) (vss_cons (vs_set 10 (vt_fn kn5 (hr.mono (by decide)) rfl (va_cons (vp_v 0) (va_cons (vp_v 6) (va_cons (vp_v 5) (va_cons (vp_of vt_int) va_nil))))) sc_L_partsM.nd) (vss_cons (vs_set 11 (vt_fn kn5 (hr.mono (by decide)) rfl (va_cons (vp_v 0) (va_cons (vp_v 6) (va_cons (vp_v 5) (va_cons (vp_of vt_int) va_nil))))) sc_L_partsM.nd) (vss_cons (vs_set 12 (vt_callB cr_sortedI cd_sorted rfl (fr _ (by decide)) boot_more.2.2.2.2.1 (va_cons (vp_of (vt_lc 9 rfl sc_L_partsM.nd (vi_rng1 rfl (fr _ (by decide)) (va_cons (vp_of (vt_op op_mod od_mod (vp_of (vt_op op_fdivW od_fdiv (vp_v 1) (vp_of vt_int))) (vp_of vt_int))) va_nil)) (blkOk_by (N := ["script", "shape", "moods", "elders", "both", "names", "many", "ahead", "boxes", "k", "ins", "outs", "sources", "ways"]) (sc := defScope s_L_partsM) (by decide +kernel)) (fun _ _ _ _ _ => pg_name sc_L_partsM.nd rfl (Or.inl rfl)) (fun _ _ _ _ _ => vts_nil) (fun _ _ _ _ _ => (vt_op op_mod od_mod (vp_of (vt_op op_fdivW od_fdiv (vp_of (vt_fn kn0 (hr.mono (by decide)) rfl (va_cons (vp_v 0) (va_cons (vp_of (vt_op op_add5 od_addG (vp_of vt_int) (vp_of (vt_op op_mul od_mul (vp_of vt_int) (vp_v 9))))) va_nil)))) (vp_of vt_int))) (vp_v 2))))) va_nil)) sc_L_partsM.nd) (vss_cons (vs_set 13 (vt_lst vm_nil) sc_L_partsM.nd) (vss_cons (vs_for 9 PassesOwn.never rfl (vi_rng1 rfl (fr _ (by decide)) (va_cons (vp_of (vt_callB call_len cd_len rfl (fr _ (by decide)) boot_more.1 (va_cons (vp_v 12) va_nil))) va_nil)) sc_L_partsM.nd (vss_one (vs_app 13 (pe_bm PySem.F.plainAttrs_list PySem.F.slot_list_append PySem.F.type_list_append mt_append (pv 13) (pa_cons (VT.run (vt_fn kn6 (hr.mono (by decide)) rfl (va_cons (vp_v 0) (va_cons (vp_of (vt_op op_add5 od_addG (vp_of vt_int) (vp_of (vt_op op_mul od_mul (vp_of vt_int) (vp_v 9))))) (va_cons (vp_ix (vp_v 12) (vp_v 9)) (va_cons (vp_v 6) (va_cons (vp_v 2) (va_cons (vp_ix (vp_v 5) (vp_ix (vp_v 12) (vp_v 9))) va_nil)))))))) pa_nil))))) (vss_one (vs_rete (ve_lst (n := 8) (vas_tmp (ve_mvp 8 (pa_v 8)) (vas_tmp (ve_mvp 5 (pa_v 5)) (vas_tmp (ve_mvp 4 (pa_ix (pa_v 4) (vp_of vt_int))) (vas_tmp (ve_mvp 3 (pa_v 3)) (vas_tmp (ve_mvp 4 (pa_ix (pa_v 4) (vp_of vt_int))) (vas_tmp (ve_mvp 10 (pa_v 10)) (vas_tmp (ve_mvp 11 (pa_v 11)) (vas_tmp (ve_mvp 13 (pa_v 13)) vas_nil))))))))))))))))))))))))))
theorem kn_L_partsM {sp0 : SpD} {sp1 : SpD} {sp2 : SpD} {sp3 : SpD} {sp4 : SpD} {sp5 : SpD} {sp6 : SpD} (hC : CsOk K cs) (hcf : ∀ ci ∈ cs, ci.fields = fieldsOf ci.name) (fr : Free mg frees) (gc_DEEPEST : ∃ t, mg "DEEPEST" = some (.int 12 t)) (gc_FIGURES : ∃ t, mg "FIGURES" = some (.str "0123456789" t)) (gc_LETTERS : ∃ t, mg "LETTERS" = some (.str "abcdefghijklmnopqrstuvwxyz" t)) (gc_WORDS : ∃ a, mg "WORDS" = some (.ref a) ∧ TupS K a ["all", "and", "box", "call", "do", "far", "if", "in", "leaf", "near", "on", "one", "open", "out", "put", "say", "shut", "then", "to"]) (kn0 : Kn P w K mg base cs "_law_cell_at" 1 ["script", "k"] sp0) (kn1 : Kn P w K mg base cs "_law_elders" 2 ["script", "many"] sp1) (kn2 : Kn P w K mg base cs "_law_kinds" 2 ["script", "elders"] sp2) (kn3 : Kn P w K mg base cs "_law_names" 1 ["cell", "many"] sp3) (kn4 : Kn P w K mg base cs "_law_far" 1 ["cell"] sp4) (kn5 : Kn P w K mg base cs "_law_rows" 4 ["script", "many", "names", "by"] sp5) (kn6 : Kn P w K mg base cs "_law_way" 4 ["script", "at", "source", "many", "moods", "name"] sp6) {f : Addr} {fd : FuncData} (F : Fun K "_law_parts" "_law_parts" s_L_partsM f fd) (hm : mg "_law_parts" = some (.ref f)) (hb : Binds K fd ["script"] []) {s : SpD} (hl : ∀ ds Q, s ds Q → ds.length = 1)
    (hd : ∀ ds Q, s ds Q → w_L_partsM sp0 sp1 sp2 sp3 sp4 sp5 sp6 { nx := fun _ => Q .non, rt := fun d _ => Q d } (env0 14 ds)) : Kn P w K mg base cs "_law_parts" 5 ["script"] s :=
  ⟨f, fd, fn_pure F sc_L_partsM hl (fun _ _ _ _ _ _ hr => vs_L_partsM hC hcf fr gc_DEEPEST gc_FIGURES gc_LETTERS gc_WORDS kn0 kn1 kn2 kn3 kn4 kn5 kn6 hr) hd, hm, F.kp, hb⟩
abbrev s_Tree_init : Stmt := inClass (top 8) 0
theorem sc_Tree_init : FnScope ["self", "kinds", "elders", "starts"] ["self", "kinds", "elders", "starts"] (defScope s_Tree_init) := ⟨rfl, rfl, rfl, by decide +kernel, rfl, by decide +kernel, by decide +kernel⟩
theorem vs_Tree_init (hC : CsOk K cs) (hcf : ∀ ci ∈ cs, ci.fields = fieldsOf ci.name) (fr : Free mg frees) (gc_DEEPEST : ∃ t, mg "DEEPEST" = some (.int 12 t)) (gc_FIGURES : ∃ t, mg "FIGURES" = some (.str "0123456789" t)) (gc_LETTERS : ∃ t, mg "LETTERS" = some (.str "abcdefghijklmnopqrstuvwxyz" t)) (gc_WORDS : ∃ a, mg "WORDS" = some (.ref a) ∧ TupS K a ["all", "and", "box", "call", "do", "far", "if", "in", "leaf", "near", "on", "one", "open", "out", "put", "say", "shut", "then", "to"]) {f : Addr} {cdv : Value} {A : Around} {outer : List PySem.Env} {sh : Shared} {H : Hp} {E : XK} (hr : Room 0 (A.deeper (envOfC "Tree.__init__" (defScope s_Tree_init) sh.heap.objs.size f cdv))) :
    VSs (cxOf CX0 P w K mg base ["self", "kinds", "elders", "starts"] "Tree.__init__" (defScope s_Tree_init) f cdv A outer sh H E).nox cs [0] (defBody s_Tree_init) (w_Tree_init) :=
  (vss_cons (vs_fset hC hcf (vt_callTy call_list_of cd_list rfl (fr _ (by decide)) boot_tys.2.2.2.1 (va_cons (vp_v 1) va_nil)) (pa_v 0)) (vss_cons (vs_fset hC hcf (vt_callTy call_list_of cd_list rfl (fr _ (by decide)) boot_tys.2.2.2.1 (va_cons (vp_v 2) va_nil)) (pa_v 0)) (vss_one (vs_fset hC hcf (vt_callTy call_list_of cd_list rfl (fr _ (by decide)) boot_tys.2.2.2.1 (va_cons (vp_v 3) va_nil)) (pa_v 0)))))
theorem kn_Tree_init (hC : CsOk K cs) (hcf : ∀ ci ∈ cs, ci.fields = fieldsOf ci.name) (fr : Free mg frees) (gc_DEEPEST : ∃ t, mg "DEEPEST" = some (.int 12 t)) (gc_FIGURES : ∃ t, mg "FIGURES" = some (.str "0123456789" t)) (gc_LETTERS : ∃ t, mg "LETTERS" = some (.str "abcdefghijklmnopqrstuvwxyz" t)) (gc_WORDS : ∃ a, mg "WORDS" = some (.ref a) ∧ TupS K a ["all", "and", "box", "call", "do", "far", "if", "in", "leaf", "near", "on", "one", "open", "out", "put", "say", "shut", "then", "to"]) {f C : Addr} {fd : FuncData} {ci : CI} (F : Fun K "__init__" "Tree.__init__" s_Tree_init f fd) (M : Mk K C f) (hm : mg "Tree" = some (.ref C)) (hb : Binds K fd ["self", "kinds", "elders", "starts"] []) (mem : ci ∈ cs) (nm : ci.name = "Tree") (ad : ci.addr = C) {s : SpM} (hl : ∀ ds Q, s ds Q → ds.length = 4)
    (hd : ∀ ds Q, s ds Q → w_Tree_init { nx := fun env => ∃ ds', backD [0] env 0 ds = some ds' ∧ Q .non ds', rt := fun d env => ∃ ds', backD [0] env 0 ds = some ds' ∧ Q d ds' } (env0 4 ds)) : KnC P w K mg base cs "Tree" 1 ["self", "kinds", "elders", "starts"] s :=
  ⟨C, f, fd, ci, M, fn_io [0] F sc_Tree_init hl (fun _ _ _ _ _ _ hr => vs_Tree_init hC hcf fr gc_DEEPEST gc_FIGURES gc_LETTERS gc_WORDS hr) hd, hm, hb, mem, nm, ad⟩
abbrev s_Chart_init : Stmt := inClass (top 16) 0
theorem sc_Chart_init : FnScope ["self", "boxes", "names", "tree", "ins", "outs", "ways"] ["self", "boxes", "names", "tree", "ins", "outs", "ways"] (defScope s_Chart_init) := ⟨rfl, rfl, rfl, by decide +kernel, rfl, by decide +kernel, by decide +kernel⟩
theorem vs_Chart_init {sp0 : SpM} (hC : CsOk K cs) (hcf : ∀ ci ∈ cs, ci.fields = fieldsOf ci.name) (fr : Free mg frees) (gc_DEEPEST : ∃ t, mg "DEEPEST" = some (.int 12 t)) (gc_FIGURES : ∃ t, mg "FIGURES" = some (.str "0123456789" t)) (gc_LETTERS : ∃ t, mg "LETTERS" = some (.str "abcdefghijklmnopqrstuvwxyz" t)) (gc_WORDS : ∃ a, mg "WORDS" = some (.ref a) ∧ TupS K a ["all", "and", "box", "call", "do", "far", "if", "in", "leaf", "near", "on", "one", "open", "out", "put", "say", "shut", "then", "to"]) (kn0 : KnC P w K mg base cs "Tree" 1 ["self", "kinds", "elders", "starts"] sp0) {f : Addr} {cdv : Value} {A : Around} {outer : List PySem.Env} {sh : Shared} {H : Hp} {E : XK} (hr : Room 2 (A.deeper (envOfC "Chart.__init__" (defScope s_Chart_init) sh.heap.objs.size f cdv))) :
    VSs (cxOf CX0 P w K mg base ["self", "boxes", "names", "tree", "ins", "outs", "ways"] "Chart.__init__" (defScope s_Chart_init) f cdv A outer sh H E).nox cs [0] (defBody s_Chart_init) (w_Chart_init sp0) :=
  (vss_cons (vs_fset hC hcf (vt_callTy call_list_of cd_list rfl (fr _ (by decide)) boot_tys.2.2.2.1 (va_cons (vp_v 1) va_nil)) (pa_v 0)) (vss_cons (vs_fset hC hcf (vt_callTy call_list_of cd_list rfl (fr _ (by decide)) boot_tys.2.2.2.1 (va_cons (vp_v 2) va_nil)) (pa_v 0)) (vss_cons (vs_fset hC hcf (vt_make kn0 (hr.mono (by decide)) rfl (va_cons (vp_fld hC (vp_v 3)) (va_cons (vp_fld hC (vp_v 3)) (va_cons (vp_fld hC (vp_v 3)) va_nil)))) (pa_v 0)) (vss_cons (vs_fset hC hcf (vt_callTy call_list_of cd_list rfl (fr _ (by decide)) boot_tys.2.2.2.1 (va_cons (vp_v 4) va_nil)) (pa_v 0)) (vss_cons (vs_fset hC hcf (vt_callTy call_list_of cd_list rfl (fr _ (by decide)) boot_tys.2.2.2.1 (va_cons (vp_v 5) va_nil)) (pa_v 0)) (vss_one (vs_fset hC hcf (vt_callTy call_list_of cd_list rfl (fr _ (by decide)) boot_tys.2.2.2.1 (va_cons (vp_v 6) va_nil)) (pa_v 0))))))))
theorem kn_Chart_init {sp0 : SpM} (hC : CsOk K cs) (hcf : ∀ ci ∈ cs, ci.fields = fieldsOf ci.name) (fr : Free mg frees) (gc_DEEPEST : ∃ t, mg "DEEPEST" = some (.int 12 t)) (gc_FIGURES : ∃ t, mg "FIGURES" = some (.str "0123456789" t)) (gc_LETTERS : ∃ t, mg "LETTERS" = some (.str "abcdefghijklmnopqrstuvwxyz" t)) (gc_WORDS : ∃ a, mg "WORDS" = some (.ref a) ∧ TupS K a ["all", "and", "box", "call", "do", "far", "if", "in", "leaf", "near", "on", "one", "open", "out", "put", "say", "shut", "then", "to"]) (kn0 : KnC P w K mg base cs "Tree" 1 ["self", "kinds", "elders", "starts"] sp0) {f C : Addr} {fd : FuncData} {ci : CI} (F : Fun K "__init__" "Chart.__init__" s_Chart_init f fd) (M : Mk K C f) (hm : mg "Chart" = some (.ref C)) (hb : Binds K fd ["self", "boxes", "names", "tree", "ins", "outs", "ways"] []) (mem : ci ∈ cs) (nm : ci.name = "Chart") (ad : ci.addr = C) {s : SpM} (hl : ∀ ds Q, s ds Q → ds.length = 7)
    (hd : ∀ ds Q, s ds Q → w_Chart_init sp0 { nx := fun env => ∃ ds', backD [0] env 0 ds = some ds' ∧ Q .non ds', rt := fun d env => ∃ ds', backD [0] env 0 ds = some ds' ∧ Q d ds' } (env0 7 ds)) : KnC P w K mg base cs "Chart" 3 ["self", "boxes", "names", "tree", "ins", "outs", "ways"] s :=
  ⟨C, f, fd, ci, M, fn_io [0] F sc_Chart_init hl (fun _ _ _ _ _ _ hr => vs_Chart_init hC hcf fr gc_DEEPEST gc_FIGURES gc_LETTERS gc_WORDS kn0 hr) hd, hm, hb, mem, nm, ad⟩
abbrev s_L_chart_8 : Stmt := top 55
theorem sc_L_chart_8 : FnScope ["parts", "tree"] ["parts"] (defScope s_L_chart_8) := ⟨rfl, rfl, rfl, by decide +kernel, rfl, by decide +kernel, by decide +kernel⟩
theorem vs_L_chart_8 {sp0 : SpM} {sp1 : SpM} (hC : CsOk K cs) (hcf : ∀ ci ∈ cs, ci.fields = fieldsOf ci.name) (fr : Free mg frees) (gc_DEEPEST : ∃ t, mg "DEEPEST" = some (.int 12 t)) (gc_FIGURES : ∃ t, mg "FIGURES" = some (.str "0123456789" t)) (gc_LETTERS : ∃ t, mg "LETTERS" = some (.str "abcdefghijklmnopqrstuvwxyz" t)) (gc_WORDS : ∃ a, mg "WORDS" = some (.ref a) ∧ TupS K a ["all", "and", "box", "call", "do", "far", "if", "in", "leaf", "near", "on", "one", "open", "out", "put", "say", "shut", "then", "to"]) (kn0 : KnC P w K mg base cs "Tree" 1 ["self", "kinds", "elders", "starts"] sp0) (kn1 : KnC P w K mg base cs "Chart" 3 ["self", "boxes", "names", "tree", "ins", "outs", "ways"] sp1) {f : Addr} {cdv : Value} {A : Around} {outer : List PySem.Env} {sh : Shared} {H : Hp} {E : XK} (hr : Room 4 (A.deeper (envOfC "_law_chart" (defScope s_L_chart_8) sh.heap.objs.size f cdv))) :
    VSs (cxOf CX0 P w K mg base ["parts", "tree"] "_law_chart" (defScope s_L_chart_8) f cdv A outer sh H E).nox cs [] (defBody s_L_chart_8) (w_L_chart_8 sp0 sp1) :=
  (vss_cons (vs_set 1 (vt_make kn0 (hr.mono (by decide)) rfl (va_cons (vp_of (vt_callTy call_list_of cd_list rfl (fr _ (by decide)) boot_tys.2.2.2.1 (va_cons (vp_ix (vp_v 0) (vp_of vt_int)) va_nil))) (va_cons (vp_of (vt_callTy call_list_of cd_list rfl (fr _ (by decide)) boot_tys.2.2.2.1 (va_cons (vp_ix (vp_v 0) (vp_of vt_int)) va_nil))) (va_cons (vp_of (vt_callTy call_list_of cd_list rfl (fr _ (by decide)) boot_tys.2.2.2.1 (va_cons (vp_ix (vp_v 0) (vp_of vt_int)) va_nil))) va_nil)))) sc_L_chart_8.nd) (vss_one (vs_ret (vt_make kn1 (hr.mono (by decide)) rfl (va_cons (vp_of (vt_callTy call_list_of cd_list rfl (fr _ (by decide)) boot_tys.2.2.2.1 (va_cons (vp_ix (vp_v 0) (vp_of vt_int)) va_nil))) (va_cons (vp_of (vt_callTy call_list_of cd_list rfl (fr _ (by decide)) boot_tys.2.2.2.1 (va_cons (vp_ix (vp_v 0) (vp_of vt_int)) va_nil))) (va_cons (vp_v 1) (va_cons (vp_of (vt_callTy call_list_of cd_list rfl (fr _ (by decide)) boot_tys.2.2.2.1 (va_cons (vp_ix (vp_v 0) (vp_of vt_int)) va_nil))) (va_cons (vp_of (vt_callTy call_list_of cd_list rfl (fr _ (by decide)) boot_tys.2.2.2.1 (va_cons (vp_ix (vp_v 0) (vp_of vt_int)) va_nil))) (va_cons (vp_of (vt_callTy call_list_of cd_list rfl (fr _ (by decide)) boot_tys.2.2.2.1 (va_cons (vp_ix (vp_v 0) (vp_of vt_int)) va_nil))) va_nil))))))))))
theorem kn_L_chart_8 {sp0 : SpM} {sp1 : SpM} (hC : CsOk K cs) (hcf : ∀ ci ∈ cs, ci.fields = fieldsOf ci.name) (fr : Free mg frees) (gc_DEEPEST : ∃ t, mg "DEEPEST" = some (.int 12 t)) (gc_FIGURES : ∃ t, mg "FIGURES" = some (.str "0123456789" t)) (gc_LETTERS : ∃ t, mg "LETTERS" = some (.str "abcdefghijklmnopqrstuvwxyz" t)) (gc_WORDS : ∃ a, mg "WORDS" = some (.ref a) ∧ TupS K a ["all", "and", "box", "call", "do", "far", "if", "in", "leaf", "near", "on", "one", "open", "out", "put", "say", "shut", "then", "to"]) (kn0 : KnC P w K mg base cs "Tree" 1 ["self", "kinds", "elders", "starts"] sp0) (kn1 : KnC P w K mg base cs "Chart" 3 ["self", "boxes", "names", "tree", "ins", "outs", "ways"] sp1) {f : Addr} {fd : FuncData} (F : Fun K "_law_chart" "_law_chart" s_L_chart_8 f fd) (hm : mg "_law_chart" = some (.ref f)) (hb : Binds K fd ["parts"] []) {s : SpD} (hl : ∀ ds Q, s ds Q → ds.length = 1)
    (hd : ∀ ds Q, s ds Q → w_L_chart_8 sp0 sp1 { nx := fun _ => Q .non, rt := fun d _ => Q d } (env0 2 ds)) : Kn P w K mg base cs "_law_chart" 5 ["parts"] s :=
  ⟨f, fd, fn_pure F sc_L_chart_8 hl (fun _ _ _ _ _ _ hr => vs_L_chart_8 hC hcf fr gc_DEEPEST gc_FIGURES gc_LETTERS gc_WORDS kn0 kn1 hr) hd, hm, F.kp, hb⟩
abbrev s_L_spoil_tree : Stmt := top 45
theorem sc_L_spoil_tree : FnScope ["parts", "cell", "many", "at", "way", "k"] ["parts", "cell"] (defScope s_L_spoil_tree) := ⟨rfl, rfl, rfl, by decide +kernel, rfl, by decide +kernel, by decide +kernel⟩
theorem vs_L_spoil_tree (hC : CsOk K cs) (hcf : ∀ ci ∈ cs, ci.fields = fieldsOf ci.name) (fr : Free mg frees) (gc_DEEPEST : ∃ t, mg "DEEPEST" = some (.int 12 t)) (gc_FIGURES : ∃ t, mg "FIGURES" = some (.str "0123456789" t)) (gc_LETTERS : ∃ t, mg "LETTERS" = some (.str "abcdefghijklmnopqrstuvwxyz" t)) (gc_WORDS : ∃ a, mg "WORDS" = some (.ref a) ∧ TupS K a ["all", "and", "box", "call", "do", "far", "if", "in", "leaf", "near", "on", "one", "open", "out", "put", "say", "shut", "then", "to"]) {f : Addr} {cdv : Value} {A : Around} {outer : List PySem.Env} {sh : Shared} {H : Hp} {E : XK} (hr : Room 0 (A.deeper (envOfC "_law_spoil_tree" (defScope s_L_spoil_tree) sh.heap.objs.size f cdv))) :
    VSs (cxOf CX0 P w K mg base ["parts", "cell", "many", "at", "way", "k"] "_law_spoil_tree" (defScope s_L_spoil_tree) f cdv A outer sh H E).nox cs [0] (defBody s_L_spoil_tree) (w_L_spoil_tree) :=
  (vss_cons (vs_set 2 (vt_callB call_len cd_len rfl (fr _ (by decide)) boot_more.1 (va_cons (vp_ix (vp_v 0) (vp_of vt_int)) va_nil)) sc_L_spoil_tree.nd) (vss_cons (vs_set 3 (vt_op op_mod od_mod (vp_of (vt_op op_fdivW od_fdiv (vp_v 1) (vp_of vt_int))) (vp_v 2)) sc_L_spoil_tree.nd) (vss_cons (vs_set 4 (vt_op op_mod od_mod (vp_v 1) (vp_of vt_int)) sc_L_spoil_tree.nd) (vss_one (vs_if (vb_cmp (op_eq2 hr.units) od_eq (vp_v 4) (vp_of vt_int) (nomark _)) (vss_one (vs_pset (vt_tk (vp_v 3)) (pa_ix (pa_v 0) (vp_of vt_int)) (vp_v 3))) (vss_one (vs_if (vb_cmp (op_eq2 hr.units) od_eq (vp_v 4) (vp_of vt_int) (nomark _)) (vss_one (vs_pset (vt_op op_add5 od_addG (vp_v 3) (vp_of vt_int)) (pa_ix (pa_v 0) (vp_of vt_int)) (vp_v 3))) (vss_one (vs_if (vb_cmp (op_eq2 hr.units) od_eq (vp_v 4) (vp_of vt_int) (nomark _)) (vss_one (vs_pset (vt_op op_sub od_sub (vp_of (vt_neg (vp_of vt_int))) (vp_of (vt_callTy call_int1 cd_int rfl (fr _ (by decide)) boot_tys.1 (va_cons (vp_of (vt_cmp (op_eq2 hr.units) od_eq (vp_v 3) (vp_of vt_int) (nomark _))) va_nil)))) (pa_ix (pa_v 0) (vp_of vt_int)) (vp_v 3))) (vss_one (vs_if (vb_cmp (op_eq2 hr.units) od_eq (vp_v 4) (vp_of vt_int) (nomark _)) (vss_one (vs_pset (vt_tk (vp_ix (vp_of (vt_lst (vm_cons vt_str (vm_cons vt_str (vm_cons vt_str (vm_cons vt_str vm_nil)))))) (vp_of (vt_op op_mod od_mod (vp_of (vt_op op_fdivW od_fdiv (vp_v 1) (vp_of vt_int))) (vp_of vt_int))))) (pa_ix (pa_v 0) (vp_of vt_int)) (vp_v 3))) (vss_one (vs_if (vb_cmp (op_eq2 hr.units) od_eq (vp_v 4) (vp_of vt_int) (nomark _)) (vss_cons (vs_pset (vt_tk (vp_ix (vp_of (vt_lst (vm_cons vt_str (vm_cons vt_str vm_nil)))) (vp_of (vt_callTy call_int1 cd_int rfl (fr _ (by decide)) boot_tys.1 (va_cons (vp_of (vt_cmp (op_eq2 hr.units) od_eq (vp_ix (vp_ix (vp_v 0) (vp_of vt_int)) (vp_v 3)) (vp_of vt_str) (nomark _))) va_nil))))) (pa_ix (pa_v 0) (vp_of vt_int)) (vp_v 3)) (vss_one (vs_pset (vt_neg (vp_of vt_int)) (pa_ix (pa_v 0) (vp_of vt_int)) (vp_v 3)))) (vss_one (vs_if (vb_cmp (op_eq2 hr.units) od_eq (vp_v 4) (vp_of vt_int) (nomark _)) (vss_one (vs_pset (vt_tk (vp_ix (vp_of (vt_lst (vm_cons (vt_tk (vp_ix (vp_of (vt_lst (vm_cons vt_int (vm_cons (vt_tk (vp_v 2)) vm_nil)))) (vp_of (vt_op op_mod od_mod (vp_of (vt_op op_fdivW od_fdiv (vp_v 1) (vp_of vt_int))) (vp_of vt_int))))) (vm_cons (vt_tk (vp_ix (vp_of (vt_lst (vm_cons (vt_neg (vp_of vt_int)) (vm_cons (vt_tk (vp_v 3)) vm_nil)))) (vp_of (vt_op op_mod od_mod (vp_of (vt_op op_fdivW od_fdiv (vp_v 1) (vp_of vt_int))) (vp_of vt_int))))) vm_nil)))) (vp_of (vt_callTy call_int1 cd_int rfl (fr _ (by decide)) boot_tys.1 (va_cons (vp_of (vt_cmp (op_eq2 hr.units) od_eq (vp_ix (vp_ix (vp_v 0) (vp_of vt_int)) (vp_v 3)) (vp_of vt_str) (nomark _))) va_nil))))) (pa_ix (pa_v 0) (vp_of vt_int)) (vp_v 3))) (vss_one (vs_if (vb_cmp (op_eq2 hr.units) od_eq (vp_v 4) (vp_of vt_int) (nomark _)) (vss_cons (vs_pins (pe_bm PySem.F.plainAttrs_list PySem.F.slot_list_insert PySem.F.type_list_insert mt_insert (VPa.run (pa_ix (pa_v 0) (vp_of vt_int))) (pa_cons (VP.run (vp_v 3)) (pa_cons (VT.run vt_str) pa_nil)))) (vss_one (vs_pset (vt_sl (vp_ix (vp_v 0) (vp_of vt_int)) vo_no (vo_some (vp_ix (vp_of (vt_lst (vm_cons (vt_op op_add5 od_addG (vp_v 2) (vp_of vt_int)) (vm_cons (vt_op op_sub od_sub (vp_v 2) (vp_of vt_int)) vm_nil)))) (vp_of (vt_op op_mod od_mod (vp_of (vt_op op_fdivW od_fdiv (vp_v 1) (vp_of vt_int))) (vp_of vt_int)))))) (pa_v 0) (vp_of vt_int)))) (vss_one (vs_if (vb_cmp (op_eq2 hr.units) od_eq (vp_v 4) (vp_of vt_int) (nomark _)) (vss_cons (vs_papp (pe_bm PySem.F.plainAttrs_list PySem.F.slot_list_append PySem.F.type_list_append mt_append (VPa.run (pa_ix (pa_v 0) (vp_of (vt_op op_add5 od_addG (vp_of vt_int) (vp_of (vt_op op_mod od_mod (vp_of (vt_op op_fdivW od_fdiv (vp_v 1) (vp_of vt_int))) (vp_of vt_int))))))) (pa_cons (VT.run (vt_neg (vp_of vt_int))) pa_nil))) (vss_one (vs_if (vb_cmp (op_eq2 hr.units) od_eq (vp_of (vt_op op_mod od_mod (vp_of (vt_op op_fdivW od_fdiv (vp_v 1) (vp_of vt_int))) (vp_of vt_int))) (vp_of vt_int) (nomark _)) (vss_one (vs_pset (vt_sl (vp_ix (vp_v 0) (vp_of (vt_op op_add5 od_addG (vp_of vt_int) (vp_of (vt_op op_mod od_mod (vp_of (vt_op op_fdivW od_fdiv (vp_v 1) (vp_of vt_int))) (vp_of vt_int)))))) vo_no (vo_some (vp_of (vt_op op_sub od_sub (vp_v 2) (vp_of vt_int))))) (pa_v 0) (vp_of (vt_op op_add5 od_addG (vp_of vt_int) (vp_of (vt_op op_mod od_mod (vp_of (vt_op op_fdivW od_fdiv (vp_v 1) (vp_of vt_int))) (vp_of vt_int))))))) vss_nil))) (vss_one (vs_if (vb_cmp (op_eq2 hr.units) od_eq (vp_v 4) (vp_of vt_int) (nomark _)) (vss_one (vs_for 5 PassesOwn.never rfl (vi_rng2 rfl (fr _ (by decide)) (va_cons (vp_of vt_int) (va_cons (vp_of vt_int) va_nil))) sc_L_spoil_tree.nd (vss_one (vs_pset (vt_lst vm_nil) (pa_v 0) (vp_v 5))))) (vss_cons (vs_pset (vt_lc 5 rfl sc_L_spoil_tree.nd (vi_rng1 rfl (fr _ (by decide)) (va_cons (vp_of vt_int) va_nil)) (blkOk_by (N := ["parts", "cell", "many", "at", "way", "k"]) (sc := defScope s_L_spoil_tree) (by decide +kernel)) (fun _ _ _ _ _ => pg_name sc_L_spoil_tree.nd rfl (Or.inl rfl)) (fun _ _ _ _ _ => vts_nil) (fun _ _ _ _ _ => (vt_op op_add5 od_addG (vp_of vt_str) (vp_of (vt_callTy call_str_int cd_str rfl (fr _ (by decide)) boot_tys.2.2.1 (va_cons (vp_v 5) va_nil)))))) (pa_v 0) (vp_of vt_int)) (vss_cons (vs_pset (vt_op op_add5 od_addG (vp_of (vt_op op_rep od_rep (vp_of (vt_lst (vm_cons vt_str vm_nil))) (vp_of vt_int))) (vp_of (vt_lst (vm_cons vt_str vm_nil)))) (pa_v 0) (vp_of vt_int)) (vss_cons (vs_pset (vt_lc 5 rfl sc_L_spoil_tree.nd (vi_rng1 rfl (fr _ (by decide)) (va_cons (vp_of vt_int) va_nil)) (blkOk_by (N := ["parts", "cell", "many", "at", "way", "k"]) (sc := defScope s_L_spoil_tree) (by decide +kernel)) (fun _ _ _ _ _ => pg_name sc_L_spoil_tree.nd rfl (Or.inl rfl)) (fun _ _ _ _ _ => vts_nil) (fun _ _ _ _ _ => (vt_op op_sub od_sub (vp_v 5) (vp_of vt_int)))) (pa_v 0) (vp_of vt_int)) (vss_one (vs_pset (vt_op op_add5 od_addG (vp_of (vt_lc 5 rfl sc_L_spoil_tree.nd (vi_rng1 rfl (fr _ (by decide)) (va_cons (vp_of vt_int) va_nil)) (blkOk_by (N := ["parts", "cell", "many", "at", "way", "k"]) (sc := defScope s_L_spoil_tree) (by decide +kernel)) (fun _ _ _ _ _ => pg_name sc_L_spoil_tree.nd rfl (Or.inl rfl)) (fun _ _ _ _ _ => vts_nil) (fun _ _ _ _ _ => (vt_op op_add5 od_addG (vp_v 5) (vp_of vt_int))))) (vp_of (vt_lst (vm_cons (vt_neg (vp_of vt_int)) vm_nil)))) (pa_v 0) (vp_of vt_int)))))))))))))))))))))))))))
theorem kn_L_spoil_tree (hC : CsOk K cs) (hcf : ∀ ci ∈ cs, ci.fields = fieldsOf ci.name) (fr : Free mg frees) (gc_DEEPEST : ∃ t, mg "DEEPEST" = some (.int 12 t)) (gc_FIGURES : ∃ t, mg "FIGURES" = some (.str "0123456789" t)) (gc_LETTERS : ∃ t, mg "LETTERS" = some (.str "abcdefghijklmnopqrstuvwxyz" t)) (gc_WORDS : ∃ a, mg "WORDS" = some (.ref a) ∧ TupS K a ["all", "and", "box", "call", "do", "far", "if", "in", "leaf", "near", "on", "one", "open", "out", "put", "say", "shut", "then", "to"]) {f : Addr} {fd : FuncData} (F : Fun K "_law_spoil_tree" "_law_spoil_tree" s_L_spoil_tree f fd) (hm : mg "_law_spoil_tree" = some (.ref f)) (hb : Binds K fd ["parts", "cell"] []) {s : SpM} (hl : ∀ ds Q, s ds Q → ds.length = 2)
    (hd : ∀ ds Q, s ds Q → w_L_spoil_tree { nx := fun env => ∃ ds', backD [0] env 0 ds = some ds' ∧ Q .non ds', rt := fun d env => ∃ ds', backD [0] env 0 ds = some ds' ∧ Q d ds' } (env0 6 ds)) : KnG P w K mg base cs "_law_spoil_tree" 1 ["parts", "cell"] [0] (noX s) :=
  ⟨f, fd, toG (fn_io [0] F sc_L_spoil_tree hl (fun _ _ _ _ _ _ hr => vs_L_spoil_tree hC hcf fr gc_DEEPEST gc_FIGURES gc_LETTERS gc_WORDS hr) hd), hm, F.kp, hb⟩
abbrev s_L_bad_name : Stmt := top 44
theorem sc_L_bad_name : FnScope ["cell", "name", "some"] ["cell", "name"] (defScope s_L_bad_name) := ⟨rfl, rfl, rfl, by decide +kernel, rfl, by decide +kernel, by decide +kernel⟩
theorem vs_L_bad_name (hC : CsOk K cs) (hcf : ∀ ci ∈ cs, ci.fields = fieldsOf ci.name) (fr : Free mg frees) (gc_DEEPEST : ∃ t, mg "DEEPEST" = some (.int 12 t)) (gc_FIGURES : ∃ t, mg "FIGURES" = some (.str "0123456789" t)) (gc_LETTERS : ∃ t, mg "LETTERS" = some (.str "abcdefghijklmnopqrstuvwxyz" t)) (gc_WORDS : ∃ a, mg "WORDS" = some (.ref a) ∧ TupS K a ["all", "and", "box", "call", "do", "far", "if", "in", "leaf", "near", "on", "one", "open", "out", "put", "say", "shut", "then", "to"]) {f : Addr} {cdv : Value} {A : Around} {outer : List PySem.Env} {sh : Shared} {H : Hp} {E : XK} (hr : Room 0 (A.deeper (envOfC "_law_bad_name" (defScope s_L_bad_name) sh.heap.objs.size f cdv))) :
    VSs (cxOf CX0 P w K mg base ["cell", "name", "some"] "_law_bad_name" (defScope s_L_bad_name) f cdv A outer sh H E).nox cs [] (defBody s_L_bad_name) (w_L_bad_name) :=
  (vss_cons (vs_set 2 (vt_lst (vm_cons vt_str (vm_cons vt_str (vm_cons vt_str (vm_cons vt_str (vm_cons vt_str (vm_cons vt_str (vm_cons (vt_op op_add5 od_addG (vp_v 1) (vp_of vt_str)) (vm_cons (vt_op op_add5 od_addG (vp_of vt_str) (vp_v 1)) (vm_cons vt_str (vm_cons (vt_op op_add5 od_addG (vp_v 1) (vp_of vt_str)) (vm_cons vt_str (vm_cons vt_str vm_nil))))))))))))) sc_L_bad_name.nd) (vss_one (vs_ret (vt_tk (vp_ix (vp_v 2) (vp_of (vt_op op_mod od_mod (vp_v 0) (vp_of vt_int))))))))
theorem kn_L_bad_name (hC : CsOk K cs) (hcf : ∀ ci ∈ cs, ci.fields = fieldsOf ci.name) (fr : Free mg frees) (gc_DEEPEST : ∃ t, mg "DEEPEST" = some (.int 12 t)) (gc_FIGURES : ∃ t, mg "FIGURES" = some (.str "0123456789" t)) (gc_LETTERS : ∃ t, mg "LETTERS" = some (.str "abcdefghijklmnopqrstuvwxyz" t)) (gc_WORDS : ∃ a, mg "WORDS" = some (.ref a) ∧ TupS K a ["all", "and", "box", "call", "do", "far", "if", "in", "leaf", "near", "on", "one", "open", "out", "put", "say", "shut", "then", "to"]) {f : Addr} {fd : FuncData} (F : Fun K "_law_bad_name" "_law_bad_name" s_L_bad_name f fd) (hm : mg "_law_bad_name" = some (.ref f)) (hb : Binds K fd ["cell", "name"] []) {s : SpD} (hl : ∀ ds Q, s ds Q → ds.length = 2)
    (hd : ∀ ds Q, s ds Q → w_L_bad_name { nx := fun _ => Q .non, rt := fun d _ => Q d } (env0 3 ds)) : Kn P w K mg base cs "_law_bad_name" 1 ["cell", "name"] s :=
  ⟨f, fd, fn_pure F sc_L_bad_name hl (fun _ _ _ _ _ _ hr => vs_L_bad_name hC hcf fr gc_DEEPEST gc_FIGURES gc_LETTERS gc_WORDS hr) hd, hm, F.kp, hb⟩
abbrev s_L_spoil_name : Stmt := top 46
theorem sc_L_spoil_name : FnScope ["parts", "cell", "many", "at"] ["parts", "cell"] (defScope s_L_spoil_name) := ⟨rfl, rfl, rfl, by decide +kernel, rfl, by decide +kernel, by decide +kernel⟩
theorem vs_L_spoil_name {sp0 : SpD} (hC : CsOk K cs) (hcf : ∀ ci ∈ cs, ci.fields = fieldsOf ci.name) (fr : Free mg frees) (gc_DEEPEST : ∃ t, mg "DEEPEST" = some (.int 12 t)) (gc_FIGURES : ∃ t, mg "FIGURES" = some (.str "0123456789" t)) (gc_LETTERS : ∃ t, mg "LETTERS" = some (.str "abcdefghijklmnopqrstuvwxyz" t)) (gc_WORDS : ∃ a, mg "WORDS" = some (.ref a) ∧ TupS K a ["all", "and", "box", "call", "do", "far", "if", "in", "leaf", "near", "on", "one", "open", "out", "put", "say", "shut", "then", "to"]) (kn0 : Kn P w K mg base cs "_law_bad_name" 1 ["cell", "name"] sp0) {f : Addr} {cdv : Value} {A : Around} {outer : List PySem.Env} {sh : Shared} {H : Hp} {E : XK} (hr : Room 1 (A.deeper (envOfC "_law_spoil_name" (defScope s_L_spoil_name) sh.heap.objs.size f cdv))) :
    VSs (cxOf CX0 P w K mg base ["parts", "cell", "many", "at"] "_law_spoil_name" (defScope s_L_spoil_name) f cdv A outer sh H E).nox cs [0] (defBody s_L_spoil_name) (w_L_spoil_name sp0) :=
  (vss_cons (vs_set 2 (vt_callB call_len cd_len rfl (fr _ (by decide)) boot_more.1 (va_cons (vp_ix (vp_v 0) (vp_of vt_int)) va_nil)) sc_L_spoil_name.nd) (vss_cons (vs_set 3 (vt_op op_mod od_mod (vp_of (vt_op op_fdivW od_fdiv (vp_v 1) (vp_of vt_int))) (vp_v 2)) sc_L_spoil_name.nd) (vss_cons (vs_pset (vt_fn kn0 (hr.mono (by decide)) rfl (va_cons (vp_of (vt_op op_fdivW od_fdiv (vp_v 1) (vp_of vt_int))) (va_cons (vp_ix (vp_ix (vp_v 0) (vp_of vt_int)) (vp_v 3)) va_nil))) (pa_ix (pa_v 0) (vp_of vt_int)) (vp_v 3)) (vss_one (vs_if (VW.vb (vw_and (vb_cmp (op_eq2 hr.units) od_eq (vp_of (vt_op op_mod od_mod (vp_v 1) (vp_of vt_int))) (vp_of vt_int) (nomark _)) (vw_and1 (vb_cmp op_gt od_cmp (vp_v 2) (vp_of vt_int) (nomark _))))) (vss_one (vs_pset (vt_tk (vp_ix (vp_ix (vp_v 0) (vp_of vt_int)) (vp_of (vt_op op_mod od_mod (vp_of (vt_op op_add5 od_addG (vp_of (vt_op op_add5 od_addG (vp_v 3) (vp_of vt_int))) (vp_of (vt_op op_mod od_mod (vp_of (vt_op op_fdivW od_fdiv (vp_v 1) (vp_of vt_int))) (vp_of (vt_op op_sub od_sub (vp_v 2) (vp_of vt_int))))))) (vp_v 2))))) (pa_ix (pa_v 0) (vp_of vt_int)) (vp_v 3))) vss_nil)))))
theorem kn_L_spoil_name {sp0 : SpD} (hC : CsOk K cs) (hcf : ∀ ci ∈ cs, ci.fields = fieldsOf ci.name) (fr : Free mg frees) (gc_DEEPEST : ∃ t, mg "DEEPEST" = some (.int 12 t)) (gc_FIGURES : ∃ t, mg "FIGURES" = some (.str "0123456789" t)) (gc_LETTERS : ∃ t, mg "LETTERS" = some (.str "abcdefghijklmnopqrstuvwxyz" t)) (gc_WORDS : ∃ a, mg "WORDS" = some (.ref a) ∧ TupS K a ["all", "and", "box", "call", "do", "far", "if", "in", "leaf", "near", "on", "one", "open", "out", "put", "say", "shut", "then", "to"]) (kn0 : Kn P w K mg base cs "_law_bad_name" 1 ["cell", "name"] sp0) {f : Addr} {fd : FuncData} (F : Fun K "_law_spoil_name" "_law_spoil_name" s_L_spoil_name f fd) (hm : mg "_law_spoil_name" = some (.ref f)) (hb : Binds K fd ["parts", "cell"] []) {s : SpM} (hl : ∀ ds Q, s ds Q → ds.length = 2)
    (hd : ∀ ds Q, s ds Q → w_L_spoil_name sp0 { nx := fun env => ∃ ds', backD [0] env 0 ds = some ds' ∧ Q .non ds', rt := fun d env => ∃ ds', backD [0] env 0 ds = some ds' ∧ Q d ds' } (env0 4 ds)) : KnG P w K mg base cs "_law_spoil_name" 2 ["parts", "cell"] [0] (noX s) :=
  ⟨f, fd, toG (fn_io [0] F sc_L_spoil_name hl (fun _ _ _ _ _ _ hr => vs_L_spoil_name hC hcf fr gc_DEEPEST gc_FIGURES gc_LETTERS gc_WORDS kn0 hr) hd), hm, F.kp, hb⟩
abbrev s_L_spoil_box : Stmt := top 47
theorem sc_L_spoil_box : FnScope ["parts", "cell", "boxes", "at", "name", "way"] ["parts", "cell"] (defScope s_L_spoil_box) := ⟨rfl, rfl, rfl, by decide +kernel, rfl, by decide +kernel, by decide +kernel⟩
theorem vs_L_spoil_box {sp0 : SpD} (hC : CsOk K cs) (hcf : ∀ ci ∈ cs, ci.fields = fieldsOf ci.name) (fr : Free mg frees) (gc_DEEPEST : ∃ t, mg "DEEPEST" = some (.int 12 t)) (gc_FIGURES : ∃ t, mg "FIGURES" = some (.str "0123456789" t)) (gc_LETTERS : ∃ t, mg "LETTERS" = some (.str "abcdefghijklmnopqrstuvwxyz" t)) (gc_WORDS : ∃ a, mg "WORDS" = some (.ref a) ∧ TupS K a ["all", "and", "box", "call", "do", "far", "if", "in", "leaf", "near", "on", "one", "open", "out", "put", "say", "shut", "then", "to"]) (kn0 : Kn P w K mg base cs "_law_bad_name" 1 ["cell", "name"] sp0) {f : Addr} {cdv : Value} {A : Around} {outer : List PySem.Env} {sh : Shared} {H : Hp} {E : XK} (hr : Room 1 (A.deeper (envOfC "_law_spoil_box" (defScope s_L_spoil_box) sh.heap.objs.size f cdv))) :
    VSs (cxOf CX0 P w K mg base ["parts", "cell", "boxes", "at", "name", "way"] "_law_spoil_box" (defScope s_L_spoil_box) f cdv A outer sh H E).nox cs [0] (defBody s_L_spoil_box) (w_L_spoil_box sp0) :=
  (vss_alias 2 0 0 (pa_ix (pa_v 0) (vp_of vt_int)) (vss_cons (vs_if (vb_cmp (op_eq2 hr.units) od_eq (vp_v 2) (vp_of (vt_lst vm_nil)) (nomark _)) (vss_one (vs_papp (pe_bm PySem.F.plainAttrs_list PySem.F.slot_list_append PySem.F.type_list_append mt_append (VPa.run (pa_v 2)) (pa_cons (VT.run (vt_tup (vm_cons vt_str (vm_cons vt_int vm_nil)))) pa_nil)))) vss_nil) (vss_cons (vs_set 3 (vt_op op_mod od_mod (vp_of (vt_op op_fdivW od_fdiv (vp_v 1) (vp_of vt_int))) (vp_of (vt_callB call_len cd_len rfl (fr _ (by decide)) boot_more.1 (va_cons (vp_v 2) va_nil)))) sc_L_spoil_box.nd) (vss_cons (vs_set 4 (vt_tk (vp_ix (vp_ix (vp_v 2) (vp_v 3)) (vp_of vt_int))) sc_L_spoil_box.nd) (vss_cons (vs_set 5 (vt_op op_mod od_mod (vp_v 1) (vp_of vt_int)) sc_L_spoil_box.nd) (vss_one (vs_if (vb_cmp (op_eq2 hr.units) od_eq (vp_v 5) (vp_of vt_int) (nomark _)) (vss_one (vs_pset (vt_tup (vm_cons (vt_fn kn0 (hr.mono (by decide)) rfl (va_cons (vp_of (vt_op op_fdivW od_fdiv (vp_v 1) (vp_of vt_int))) (va_cons (vp_v 4) va_nil))) (vm_cons (vt_tk (vp_ix (vp_ix (vp_v 2) (vp_v 3)) (vp_of vt_int))) vm_nil))) (pa_v 2) (vp_v 3))) (vss_one (vs_if (vb_cmp (op_eq2 hr.units) od_eq (vp_v 5) (vp_of vt_int) (nomark _)) (vss_one (vs_pins (pe_bm PySem.F.plainAttrs_list PySem.F.slot_list_insert PySem.F.type_list_insert mt_insert (VPa.run (pa_v 2)) (pa_cons (VP.run (vp_v 3)) (pa_cons (VT.run (vt_tup (vm_cons (vt_tk (vp_v 4)) (vm_cons (vt_op op_mod od_mod (vp_of (vt_op op_fdivW od_fdiv (vp_v 1) (vp_of vt_int))) (vp_of vt_int)) vm_nil)))) pa_nil))))) (vss_one (vs_if (vb_cmp (op_eq2 hr.units) od_eq (vp_v 5) (vp_of vt_int) (nomark _)) (vss_one (vs_pset (vt_tup (vm_cons (vt_tk (vp_v 4)) (vm_cons (vt_op op_add5 od_addG (vp_of (vt_op op_pow od_pow (vp_of vt_int) (vp_of vt_int))) (vp_of (vt_op op_mod od_mod (vp_of (vt_op op_fdivW od_fdiv (vp_v 1) (vp_of vt_int))) (vp_of vt_int)))) vm_nil))) (pa_v 2) (vp_v 3))) (vss_one (vs_pset (vt_tup (vm_cons (vt_tk (vp_v 4)) (vm_cons (vt_op op_sub od_sub (vp_of (vt_op op_sub od_sub (vp_of vt_int) (vp_of (vt_op op_pow od_pow (vp_of vt_int) (vp_of vt_int))))) (vp_of (vt_op op_mod od_mod (vp_of (vt_op op_fdivW od_fdiv (vp_v 1) (vp_of vt_int))) (vp_of vt_int)))) vm_nil))) (pa_v 2) (vp_v 3))))))))))))) sc_L_spoil_box.nd)
theorem kn_L_spoil_box {sp0 : SpD} (hC : CsOk K cs) (hcf : ∀ ci ∈ cs, ci.fields = fieldsOf ci.name) (fr : Free mg frees) (gc_DEEPEST : ∃ t, mg "DEEPEST" = some (.int 12 t)) (gc_FIGURES : ∃ t, mg "FIGURES" = some (.str "0123456789" t)) (gc_LETTERS : ∃ t, mg "LETTERS" = some (.str "abcdefghijklmnopqrstuvwxyz" t)) (gc_WORDS : ∃ a, mg "WORDS" = some (.ref a) ∧ TupS K a ["all", "and", "box", "call", "do", "far", "if", "in", "leaf", "near", "on", "one", "open", "out", "put", "say", "shut", "then", "to"]) (kn0 : Kn P w K mg base cs "_law_bad_name" 1 ["cell", "name"] sp0) {f : Addr} {fd : FuncData} (F : Fun K "_law_spoil_box" "_law_spoil_box" s_L_spoil_box f fd) (hm : mg "_law_spoil_box" = some (.ref f)) (hb : Binds K fd ["parts", "cell"] []) {s : SpM} (hl : ∀ ds Q, s ds Q → ds.length = 2)
    (hd : ∀ ds Q, s ds Q → w_L_spoil_box sp0 { nx := fun env => ∃ ds', backD [0] env 0 ds = some ds' ∧ Q .non ds', rt := fun d env => ∃ ds', backD [0] env 0 ds = some ds' ∧ Q d ds' } (env0 6 ds)) : KnG P w K mg base cs "_law_spoil_box" 2 ["parts", "cell"] [0] (noX s) :=
  ⟨f, fd, toG (fn_io [0] F sc_L_spoil_box hl (fun _ _ _ _ _ _ hr => vs_L_spoil_box hC hcf fr gc_DEEPEST gc_FIGURES gc_LETTERS gc_WORDS kn0 hr) hd), hm, F.kp, hb⟩
abbrev s_L_bad_term : Stmt := top 48
theorem sc_L_bad_term : FnScope ["cell", "many", "more", "box"] ["cell", "many"] (defScope s_L_bad_term) := ⟨rfl, rfl, rfl, by decide +kernel, rfl, by decide +kernel, by decide +kernel⟩
theorem vs_L_bad_term (hC : CsOk K cs) (hcf : ∀ ci ∈ cs, ci.fields = fieldsOf ci.name) (fr : Free mg frees) (gc_DEEPEST : ∃ t, mg "DEEPEST" = some (.int 12 t)) (gc_FIGURES : ∃ t, mg "FIGURES" = some (.str "0123456789" t)) (gc_LETTERS : ∃ t, mg "LETTERS" = some (.str "abcdefghijklmnopqrstuvwxyz" t)) (gc_WORDS : ∃ a, mg "WORDS" = some (.ref a) ∧ TupS K a ["all", "and", "box", "call", "do", "far", "if", "in", "leaf", "near", "on", "one", "open", "out", "put", "say", "shut", "then", "to"]) {f : Addr} {cdv : Value} {A : Around} {outer : List PySem.Env} {sh : Shared} {H : Hp} {E : XK} (hr : Room 0 (A.deeper (envOfC "_law_bad_term" (defScope s_L_bad_term) sh.heap.objs.size f cdv))) :
    VSs (cxOf CX0 P w K mg base ["cell", "many", "more", "box"] "_law_bad_term" (defScope s_L_bad_term) f cdv A outer sh H E).nox cs [] (defBody s_L_bad_term) (w_L_bad_term) :=
  (vss_cons (vs_set 2 (vt_tk (vp_ix (vp_of (vt_lst (vm_cons vt_int (vm_cons (vt_op op_pow od_pow (vp_of vt_int) (vp_of vt_int)) (vm_cons (vt_op op_sub od_sub (vp_of vt_int) (vp_of (vt_op op_pow od_pow (vp_of vt_int) (vp_of vt_int)))) (vm_cons (vt_op op_pow od_pow (vp_of vt_int) (vp_of vt_int)) vm_nil)))))) (vp_of (vt_op op_mod od_mod (vp_of (vt_op op_fdivW od_fdiv (vp_v 0) (vp_of vt_int))) (vp_of vt_int))))) sc_L_bad_term.nd) (vss_cons (vs_set 3 (vt_tk (vp_ix (vp_of (vt_lst (vm_cons (vt_tk (vp_v 1)) (vm_cons (vt_neg (vp_of vt_int)) (vm_cons (vt_op op_add5 od_addG (vp_v 1) (vp_of vt_int)) vm_nil))))) (vp_of (vt_op op_mod od_mod (vp_of (vt_op op_fdivW od_fdiv (vp_v 0) (vp_of vt_int))) (vp_of vt_int))))) sc_L_bad_term.nd) (vss_cons (vs_if (vb_cmp (op_ne2 hr.units) od_ne (vp_v 2) (vp_of vt_int) (nomark _)) (vss_one (vs_set 3 (vt_op op_sub od_sub (vp_of (vt_op op_mod od_mod (vp_of (vt_op op_fdivW od_fdiv (vp_v 0) (vp_of vt_int))) (vp_of (vt_op op_add5 od_addG (vp_v 1) (vp_of vt_int))))) (vp_of vt_int)) sc_L_bad_term.nd)) vss_nil) (vss_one (vs_rettup (vm_mv 3 (vm_mv 2 vm_nil)))))))
theorem kn_L_bad_term (hC : CsOk K cs) (hcf : ∀ ci ∈ cs, ci.fields = fieldsOf ci.name) (fr : Free mg frees) (gc_DEEPEST : ∃ t, mg "DEEPEST" = some (.int 12 t)) (gc_FIGURES : ∃ t, mg "FIGURES" = some (.str "0123456789" t)) (gc_LETTERS : ∃ t, mg "LETTERS" = some (.str "abcdefghijklmnopqrstuvwxyz" t)) (gc_WORDS : ∃ a, mg "WORDS" = some (.ref a) ∧ TupS K a ["all", "and", "box", "call", "do", "far", "if", "in", "leaf", "near", "on", "one", "open", "out", "put", "say", "shut", "then", "to"]) {f : Addr} {fd : FuncData} (F : Fun K "_law_bad_term" "_law_bad_term" s_L_bad_term f fd) (hm : mg "_law_bad_term" = some (.ref f)) (hb : Binds K fd ["cell", "many"] []) {s : SpD} (hl : ∀ ds Q, s ds Q → ds.length = 2)
    (hd : ∀ ds Q, s ds Q → w_L_bad_term { nx := fun _ => Q .non, rt := fun d _ => Q d } (env0 4 ds)) : Kn P w K mg base cs "_law_bad_term" 1 ["cell", "many"] s :=
  ⟨f, fd, fn_pure F sc_L_bad_term hl (fun _ _ _ _ _ _ hr => vs_L_bad_term hC hcf fr gc_DEEPEST gc_FIGURES gc_LETTERS gc_WORDS hr) hd, hm, F.kp, hb⟩
abbrev s_L_bad_deed : Stmt := top 49
theorem sc_L_bad_deed : FnScope ["cell", "many", "way"] ["cell", "many"] (defScope s_L_bad_deed) := ⟨rfl, rfl, rfl, by decide +kernel, rfl, by decide +kernel, by decide +kernel⟩
theorem vs_L_bad_deed {sp0 : SpD} {sp1 : SpD} (hC : CsOk K cs) (hcf : ∀ ci ∈ cs, ci.fields = fieldsOf ci.name) (fr : Free mg frees) (gc_DEEPEST : ∃ t, mg "DEEPEST" = some (.int 12 t)) (gc_FIGURES : ∃ t, mg "FIGURES" = some (.str "0123456789" t)) (gc_LETTERS : ∃ t, mg "LETTERS" = some (.str "abcdefghijklmnopqrstuvwxyz" t)) (gc_WORDS : ∃ a, mg "WORDS" = some (.ref a) ∧ TupS K a ["all", "and", "box", "call", "do", "far", "if", "in", "leaf", "near", "on", "one", "open", "out", "put", "say", "shut", "then", "to"]) (kn0 : Kn P w K mg base cs "_law_bad_term" 1 ["cell", "many"] sp0) (kn1 : Kn P w K mg base cs "_law_bad_name" 1 ["cell", "name"] sp1) {f : Addr} {cdv : Value} {A : Around} {outer : List PySem.Env} {sh : Shared} {H : Hp} {E : XK} (hr : Room 1 (A.deeper (envOfC "_law_bad_deed" (defScope s_L_bad_deed) sh.heap.objs.size f cdv))) :
    VSs (cxOf CX0 P w K mg base ["cell", "many", "way"] "_law_bad_deed" (defScope s_L_bad_deed) f cdv A outer sh H E).nox cs [] (defBody s_L_bad_deed) (w_L_bad_deed sp0 sp1) :=
  (vss_cons (vs_set 2 (vt_op op_mod od_mod (vp_v 0) (vp_of vt_int)) sc_L_bad_deed.nd) (vss_cons (vs_set 0 (vt_op op_fdivW od_fdiv (vp_v 0) (vp_of vt_int)) sc_L_bad_deed.nd) (vss_cons (vs_if (vb_cmp (op_eq2 hr.units) od_eq (vp_v 2) (vp_of vt_int) (nomark _)) (vss_one (vs_ret (vt_tup (vm_cons (vt_tk (vp_ix (vp_of (vt_lst (vm_cons vt_str (vm_cons vt_str (vm_cons vt_str (vm_cons vt_str (vm_cons vt_str vm_nil))))))) (vp_of (vt_op op_mod od_mod (vp_v 0) (vp_of vt_int))))) (vm_cons vt_str (vm_cons (vt_tup (vm_cons (vt_neg (vp_of vt_int)) (vm_cons vt_int vm_nil))) vm_nil)))))) vss_nil) (vss_cons (vs_if (vb_cmp (op_eq2 hr.units) od_eq (vp_v 2) (vp_of vt_int) (nomark _)) (vss_one (vs_ret (vt_tup (vm_cons vt_str (vm_cons (vt_tk (vp_ix (vp_of (vt_lst (vm_cons (vt_tk (vp_v 1)) (vm_cons (vt_neg (vp_of vt_int)) (vm_cons (vt_op op_add5 od_addG (vp_v 1) (vp_of vt_int)) vm_nil))))) (vp_of (vt_op op_mod od_mod (vp_v 0) (vp_of vt_int))))) (vm_cons (vt_tup (vm_cons (vt_neg (vp_of vt_int)) (vm_cons vt_int vm_nil))) vm_nil)))))) vss_nil) (vss_cons (vs_if (VW.vb (vw_and (vb_cmp (op_eq2 hr.units) od_eq (vp_v 2) (vp_of vt_int) (nomark _)) (vw_and1 (vb_cmp op_gt od_cmp (vp_v 1) (vp_of vt_int) (nomark _))))) (vss_one (vs_ret (vt_tup (vm_cons vt_str (vm_cons (vt_op op_mod od_mod (vp_v 0) (vp_v 1)) (vm_cons (vt_fn kn0 (hr.mono (by decide)) rfl (va_cons (vp_of (vt_op op_fdivW od_fdiv (vp_v 0) (vp_v 1))) (va_cons (vp_v 1) va_nil))) vm_nil)))))) vss_nil) (vss_cons (vs_if (vb_cmp (op_eq2 hr.units) od_eq (vp_v 2) (vp_of vt_int) (nomark _)) (vss_one (vs_ret (vt_tup (vm_cons vt_str (vm_cons (vt_fn kn1 (hr.mono (by decide)) rfl (va_cons (vp_v 0) (va_cons (vp_of vt_str) va_nil))) vm_nil))))) vss_nil) (vss_cons (vs_if (vb_cmp (op_eq2 hr.units) od_eq (vp_v 2) (vp_of vt_int) (nomark _)) (vss_one (vs_ret (vt_tup (vm_cons vt_str (vm_cons (vt_fn kn1 (hr.mono (by decide)) rfl (va_cons (vp_v 0) (va_cons (vp_of vt_str) va_nil))) (vm_cons (vt_tup (vm_cons (vt_neg (vp_of vt_int)) (vm_cons vt_int vm_nil))) vm_nil)))))) vss_nil) (vss_one (vs_ret (vt_tup (vm_cons vt_str (vm_cons vt_str (vm_cons (vt_fn kn0 (hr.mono (by decide)) rfl (va_cons (vp_v 0) (va_cons (vp_v 1) va_nil))) vm_nil)))))))))))))
theorem kn_L_bad_deed {sp0 : SpD} {sp1 : SpD} (hC : CsOk K cs) (hcf : ∀ ci ∈ cs, ci.fields = fieldsOf ci.name) (fr : Free mg frees) (gc_DEEPEST : ∃ t, mg "DEEPEST" = some (.int 12 t)) (gc_FIGURES : ∃ t, mg "FIGURES" = some (.str "0123456789" t)) (gc_LETTERS : ∃ t, mg "LETTERS" = some (.str "abcdefghijklmnopqrstuvwxyz" t)) (gc_WORDS : ∃ a, mg "WORDS" = some (.ref a) ∧ TupS K a ["all", "and", "box", "call", "do", "far", "if", "in", "leaf", "near", "on", "one", "open", "out", "put", "say", "shut", "then", "to"]) (kn0 : Kn P w K mg base cs "_law_bad_term" 1 ["cell", "many"] sp0) (kn1 : Kn P w K mg base cs "_law_bad_name" 1 ["cell", "name"] sp1) {f : Addr} {fd : FuncData} (F : Fun K "_law_bad_deed" "_law_bad_deed" s_L_bad_deed f fd) (hm : mg "_law_bad_deed" = some (.ref f)) (hb : Binds K fd ["cell", "many"] []) {s : SpD} (hl : ∀ ds Q, s ds Q → ds.length = 2)
    (hd : ∀ ds Q, s ds Q → w_L_bad_deed sp0 sp1 { nx := fun _ => Q .non, rt := fun d _ => Q d } (env0 3 ds)) : Kn P w K mg base cs "_law_bad_deed" 2 ["cell", "many"] s :=
  ⟨f, fd, fn_pure F sc_L_bad_deed hl (fun _ _ _ _ _ _ hr => vs_L_bad_deed hC hcf fr gc_DEEPEST gc_FIGURES gc_LETTERS gc_WORDS kn0 kn1 hr) hd, hm, F.kp, hb⟩
abbrev s_L_put_in : Stmt := top 50
theorem sc_L_put_in : FnScope ["row", "cell", "thing"] ["row", "cell", "thing"] (defScope s_L_put_in) := ⟨rfl, rfl, rfl, by decide +kernel, rfl, by decide +kernel, by decide +kernel⟩
theorem vs_L_put_in (hC : CsOk K cs) (hcf : ∀ ci ∈ cs, ci.fields = fieldsOf ci.name) (fr : Free mg frees) (gc_DEEPEST : ∃ t, mg "DEEPEST" = some (.int 12 t)) (gc_FIGURES : ∃ t, mg "FIGURES" = some (.str "0123456789" t)) (gc_LETTERS : ∃ t, mg "LETTERS" = some (.str "abcdefghijklmnopqrstuvwxyz" t)) (gc_WORDS : ∃ a, mg "WORDS" = some (.ref a) ∧ TupS K a ["all", "and", "box", "call", "do", "far", "if", "in", "leaf", "near", "on", "one", "open", "out", "put", "say", "shut", "then", "to"]) {f : Addr} {cdv : Value} {A : Around} {outer : List PySem.Env} {sh : Shared} {H : Hp} {E : XK} (hr : Room 0 (A.deeper (envOfC "_law_put_in" (defScope s_L_put_in) sh.heap.objs.size f cdv))) :
    VSs (cxOf CX0 P w K mg base ["row", "cell", "thing"] "_law_put_in" (defScope s_L_put_in) f cdv A outer sh H E).nox cs [] (defBody s_L_put_in) (w_L_put_in) :=
  (vss_cons (vs_set 0 (vt_callTy call_list_of cd_list rfl (fr _ (by decide)) boot_tys.2.2.2.1 (va_cons (vp_v 0) va_nil)) sc_L_put_in.nd) (vss_cons (vs_pins (pe_bm PySem.F.plainAttrs_list PySem.F.slot_list_insert PySem.F.type_list_insert mt_insert (VPa.run (pa_v 0)) (pa_cons (VP.run (vp_of (vt_op op_mod od_mod (vp_v 1) (vp_of (vt_op op_add5 od_addG (vp_of (vt_callB call_len cd_len rfl (fr _ (by decide)) boot_more.1 (va_cons (vp_v 0) va_nil))) (vp_of vt_int)))))) (pa_cons (VT.run (vt_tk (vp_v 2))) pa_nil)))) (vss_one (vs_ret (vt_callTy call_tuple_of cd_tuple rfl (fr _ (by decide)) boot_tys.2.2.2.2.1 (va_cons (vp_v 0) va_nil))))))
theorem kn_L_put_in (hC : CsOk K cs) (hcf : ∀ ci ∈ cs, ci.fields = fieldsOf ci.name) (fr : Free mg frees) (gc_DEEPEST : ∃ t, mg "DEEPEST" = some (.int 12 t)) (gc_FIGURES : ∃ t, mg "FIGURES" = some (.str "0123456789" t)) (gc_LETTERS : ∃ t, mg "LETTERS" = some (.str "abcdefghijklmnopqrstuvwxyz" t)) (gc_WORDS : ∃ a, mg "WORDS" = some (.ref a) ∧ TupS K a ["all", "and", "box", "call", "do", "far", "if", "in", "leaf", "near", "on", "one", "open", "out", "put", "say", "shut", "then", "to"]) {f : Addr} {fd : FuncData} (F : Fun K "_law_put_in" "_law_put_in" s_L_put_in f fd) (hm : mg "_law_put_in" = some (.ref f)) (hb : Binds K fd ["row", "cell", "thing"] []) {s : SpD} (hl : ∀ ds Q, s ds Q → ds.length = 3)
    (hd : ∀ ds Q, s ds Q → w_L_put_in { nx := fun _ => Q .non, rt := fun d _ => Q d } (env0 3 ds)) : Kn P w K mg base cs "_law_put_in" 1 ["row", "cell", "thing"] s :=
  ⟨f, fd, fn_pure F sc_L_put_in hl (fun _ _ _ _ _ _ hr => vs_L_put_in hC hcf fr gc_DEEPEST gc_FIGURES gc_LETTERS gc_WORDS hr) hd, hm, F.kp, hb⟩
abbrev s_L_spoil_deed : Stmt := top 51
theorem sc_L_spoil_deed : FnScope ["parts", "cell", "deed", "way", "at", "source"] ["parts", "cell"] (defScope s_L_spoil_deed) := ⟨rfl, rfl, rfl, by decide +kernel, rfl, by decide +kernel, by decide +kernel⟩
theorem vs_L_spoil_deed {sp0 : SpD} {sp1 : SpD} (hC : CsOk K cs) (hcf : ∀ ci ∈ cs, ci.fields = fieldsOf ci.name) (fr : Free mg frees) (gc_DEEPEST : ∃ t, mg "DEEPEST" = some (.int 12 t)) (gc_FIGURES : ∃ t, mg "FIGURES" = some (.str "0123456789" t)) (gc_LETTERS : ∃ t, mg "LETTERS" = some (.str "abcdefghijklmnopqrstuvwxyz" t)) (gc_WORDS : ∃ a, mg "WORDS" = some (.ref a) ∧ TupS K a ["all", "and", "box", "call", "do", "far", "if", "in", "leaf", "near", "on", "one", "open", "out", "put", "say", "shut", "then", "to"]) (kn0 : Kn P w K mg base cs "_law_bad_deed" 2 ["cell", "many"] sp0) (kn1 : Kn P w K mg base cs "_law_put_in" 1 ["row", "cell", "thing"] sp1) {f : Addr} {cdv : Value} {A : Around} {outer : List PySem.Env} {sh : Shared} {H : Hp} {E : XK} (hr : Room 2 (A.deeper (envOfC "_law_spoil_deed" (defScope s_L_spoil_deed) sh.heap.objs.size f cdv))) :
    VSs (cxOf CX0 P w K mg base ["parts", "cell", "deed", "way", "at", "source"] "_law_spoil_deed" (defScope s_L_spoil_deed) f cdv A outer sh H E).nox cs [0] (defBody s_L_spoil_deed) (w_L_spoil_deed sp0 sp1) :=
  (vss_cons (vs_set 2 (vt_fn kn0 (hr.mono (by decide)) rfl (va_cons (vp_of (vt_op op_fdivW od_fdiv (vp_v 1) (vp_of vt_int))) (va_cons (vp_of (vt_callB call_len cd_len rfl (fr _ (by decide)) boot_more.1 (va_cons (vp_ix (vp_v 0) (vp_of vt_int)) va_nil))) va_nil))) sc_L_spoil_deed.nd) (vss_cons (vs_set 3 (vt_op op_mod od_mod (vp_v 1) (vp_of vt_int)) sc_L_spoil_deed.nd) (vss_cons (vs_set 4 (vt_op op_mod od_mod (vp_of (vt_op op_fdivW od_fdiv (vp_v 1) (vp_of vt_int))) (vp_of (vt_callB call_len cd_len rfl (fr _ (by decide)) boot_more.1 (va_cons (vp_ix (vp_v 0) (vp_of vt_int)) va_nil)))) sc_L_spoil_deed.nd) (vss_one (vs_if (vb_cmp op_lt od_cmp (vp_v 3) (vp_of vt_int) (nomark _)) (vss_one (vs_pset (vt_fn kn1 (hr.mono (by decide)) rfl (va_cons (vp_ix (vp_ix (vp_v 0) (vp_of (vt_op op_add5 od_addG (vp_of vt_int) (vp_v 3)))) (vp_v 4)) (va_cons (vp_of (vt_op op_fdivW od_fdiv (vp_v 1) (vp_of vt_int))) (va_cons (vp_v 2) va_nil)))) (pa_ix (pa_v 0) (vp_of (vt_op op_add5 od_addG (vp_of vt_int) (vp_v 3)))) (vp_v 4))) (vss_one (vs_if (vb_cmp (op_eq2 hr.units) od_eq (vp_v 3) (vp_of vt_int) (nomark _)) (vss_cons (vs_papp (pe_bm PySem.F.plainAttrs_list PySem.F.slot_list_append PySem.F.type_list_append mt_append (VPa.run (pa_ix (pa_v 0) (vp_of (vt_op op_add5 od_addG (vp_of vt_int) (vp_of (vt_op op_mod od_mod (vp_of (vt_op op_fdivW od_fdiv (vp_v 1) (vp_of vt_int))) (vp_of vt_int))))))) (pa_cons (VT.run (vt_tup vm_nil)) pa_nil))) (vss_one (vs_if (vb_cmp (op_eq2 hr.units) od_eq (vp_of (vt_op op_mod od_mod (vp_of (vt_op op_fdivW od_fdiv (vp_v 1) (vp_of vt_int))) (vp_of vt_int))) (vp_of vt_int) (nomark _)) (vss_one (vs_pset (vt_sl (vp_ix (vp_v 0) (vp_of (vt_op op_add5 od_addG (vp_of vt_int) (vp_of (vt_op op_mod od_mod (vp_of (vt_op op_fdivW od_fdiv (vp_v 1) (vp_of vt_int))) (vp_of vt_int)))))) vo_no (vo_some (vp_of (vt_neg (vp_of vt_int))))) (pa_v 0) (vp_of (vt_op op_add5 od_addG (vp_of vt_int) (vp_of (vt_op op_mod od_mod (vp_of (vt_op op_fdivW od_fdiv (vp_v 1) (vp_of vt_int))) (vp_of vt_int))))))) vss_nil))) (vss_cons (vs_set 5 vt_int sc_L_spoil_deed.nd) (vss_cons (vs_if (vb_cmp (op_ne2 hr.units) od_ne (vp_ix (vp_v 0) (vp_of vt_int)) (vp_of (vt_lst vm_nil)) (nomark _)) (vss_one (vs_set 5 (vt_tk (vp_ix (vp_ix (vp_ix (vp_v 0) (vp_of vt_int)) (vp_of (vt_neg (vp_of vt_int)))) (vp_of vt_int))) sc_L_spoil_deed.nd)) vss_nil) (vss_one (vs_papp (pe_bm PySem.F.plainAttrs_list PySem.F.slot_list_append PySem.F.type_list_append mt_append (VPa.run (pa_ix (pa_v 0) (vp_of vt_int))) (pa_cons (VT.run (vt_tup (vm_cons (vt_tk (vp_v 5)) (vm_cons vt_str (vm_cons (vt_tup vm_nil) (vm_cons (vt_tup (vm_cons (vt_tup (vm_cons vt_str (vm_cons vt_str vm_nil))) (vm_cons (vt_tk (vp_v 2)) vm_nil))) (vm_cons (vt_neg (vp_of vt_int)) (vm_cons vt_str vm_nil)))))))) pa_nil)))))))))))))
theorem kn_L_spoil_deed {sp0 : SpD} {sp1 : SpD} (hC : CsOk K cs) (hcf : ∀ ci ∈ cs, ci.fields = fieldsOf ci.name) (fr : Free mg frees) (gc_DEEPEST : ∃ t, mg "DEEPEST" = some (.int 12 t)) (gc_FIGURES : ∃ t, mg "FIGURES" = some (.str "0123456789" t)) (gc_LETTERS : ∃ t, mg "LETTERS" = some (.str "abcdefghijklmnopqrstuvwxyz" t)) (gc_WORDS : ∃ a, mg "WORDS" = some (.ref a) ∧ TupS K a ["all", "and", "box", "call", "do", "far", "if", "in", "leaf", "near", "on", "one", "open", "out", "put", "say", "shut", "then", "to"]) (kn0 : Kn P w K mg base cs "_law_bad_deed" 2 ["cell", "many"] sp0) (kn1 : Kn P w K mg base cs "_law_put_in" 1 ["row", "cell", "thing"] sp1) {f : Addr} {fd : FuncData} (F : Fun K "_law_spoil_deed" "_law_spoil_deed" s_L_spoil_deed f fd) (hm : mg "_law_spoil_deed" = some (.ref f)) (hb : Binds K fd ["parts", "cell"] []) {s : SpM} (hl : ∀ ds Q, s ds Q → ds.length = 2)
    (hd : ∀ ds Q, s ds Q → w_L_spoil_deed sp0 sp1 { nx := fun env => ∃ ds', backD [0] env 0 ds = some ds' ∧ Q .non ds', rt := fun d env => ∃ ds', backD [0] env 0 ds = some ds' ∧ Q d ds' } (env0 6 ds)) : KnG P w K mg base cs "_law_spoil_deed" 3 ["parts", "cell"] [0] (noX s) :=
  ⟨f, fd, toG (fn_io [0] F sc_L_spoil_deed hl (fun _ _ _ _ _ _ hr => vs_L_spoil_deed hC hcf fr gc_DEEPEST gc_FIGURES gc_LETTERS gc_WORDS kn0 kn1 hr) hd), hm, F.kp, hb⟩
abbrev s_L_bad_ask : Stmt := top 52
theorem sc_L_bad_ask : FnScope ["cell", "many", "moods", "way"] ["cell", "many", "moods"] (defScope s_L_bad_ask) := ⟨rfl, rfl, rfl, by decide +kernel, rfl, by decide +kernel, by decide +kernel⟩
theorem vs_L_bad_ask {sp0 : SpD} (hC : CsOk K cs) (hcf : ∀ ci ∈ cs, ci.fields = fieldsOf ci.name) (fr : Free mg frees) (gc_DEEPEST : ∃ t, mg "DEEPEST" = some (.int 12 t)) (gc_FIGURES : ∃ t, mg "FIGURES" = some (.str "0123456789" t)) (gc_LETTERS : ∃ t, mg "LETTERS" = some (.str "abcdefghijklmnopqrstuvwxyz" t)) (gc_WORDS : ∃ a, mg "WORDS" = some (.ref a) ∧ TupS K a ["all", "and", "box", "call", "do", "far", "if", "in", "leaf", "near", "on", "one", "open", "out", "put", "say", "shut", "then", "to"]) (kn0 : Kn P w K mg base cs "_law_bad_term" 1 ["cell", "many"] sp0) {f : Addr} {cdv : Value} {A : Around} {outer : List PySem.Env} {sh : Shared} {H : Hp} {E : XK} (hr : Room 1 (A.deeper (envOfC "_law_bad_ask" (defScope s_L_bad_ask) sh.heap.objs.size f cdv))) :
    VSs (cxOf CX0 P w K mg base ["cell", "many", "moods", "way"] "_law_bad_ask" (defScope s_L_bad_ask) f cdv A outer sh H E).nox cs [] (defBody s_L_bad_ask) (w_L_bad_ask sp0) :=
  (vss_cons (vs_set 3 (vt_op op_mod od_mod (vp_v 0) (vp_of vt_int)) sc_L_bad_ask.nd) (vss_cons (vs_set 0 (vt_op op_fdivW od_fdiv (vp_v 0) (vp_of vt_int)) sc_L_bad_ask.nd) (vss_cons (vs_if (vb_cmp (op_eq2 hr.units) od_eq (vp_v 3) (vp_of vt_int) (nomark _)) (vss_one (vs_ret (vt_tup (vm_cons (vt_tk (vp_ix (vp_of (vt_lst (vm_cons vt_str (vm_cons vt_str vm_nil)))) (vp_of (vt_op op_mod od_mod (vp_v 0) (vp_of vt_int))))) (vm_cons (vt_tk (vp_ix (vp_of (vt_lst (vm_cons (vt_tk (vp_v 2)) (vm_cons (vt_neg (vp_of vt_int)) vm_nil)))) (vp_of (vt_op op_mod od_mod (vp_of (vt_op op_fdivW od_fdiv (vp_v 0) (vp_of vt_int))) (vp_of vt_int))))) vm_nil))))) vss_nil) (vss_cons (vs_if (vb_cmp (op_eq2 hr.units) od_eq (vp_v 3) (vp_of vt_int) (nomark _)) (vss_one (vs_ret (vt_tup (vm_cons (vt_tk (vp_ix (vp_of (vt_lst (vm_cons vt_str (vm_cons vt_str (vm_cons vt_str (vm_cons vt_str vm_nil)))))) (vp_of (vt_op op_mod od_mod (vp_v 0) (vp_of vt_int))))) (vm_cons (vt_tup (vm_cons (vt_neg (vp_of vt_int)) (vm_cons vt_int vm_nil))) (vm_cons (vt_tup (vm_cons (vt_neg (vp_of vt_int)) (vm_cons vt_int vm_nil))) vm_nil)))))) vss_nil) (vss_cons (vs_if (vb_cmp (op_eq2 hr.units) od_eq (vp_v 3) (vp_of vt_int) (nomark _)) (vss_one (vs_ret (vt_tup (vm_cons vt_str (vm_cons (vt_fn kn0 (hr.mono (by decide)) rfl (va_cons (vp_v 0) (va_cons (vp_v 1) va_nil))) (vm_cons (vt_tup (vm_cons (vt_neg (vp_of vt_int)) (vm_cons vt_int vm_nil))) vm_nil)))))) vss_nil) (vss_one (vs_ret (vt_tup (vm_cons vt_str (vm_cons (vt_tup (vm_cons (vt_neg (vp_of vt_int)) (vm_cons vt_int vm_nil))) (vm_cons (vt_fn kn0 (hr.mono (by decide)) rfl (va_cons (vp_v 0) (va_cons (vp_v 1) va_nil))) vm_nil)))))))))))
theorem kn_L_bad_ask {sp0 : SpD} (hC : CsOk K cs) (hcf : ∀ ci ∈ cs, ci.fields = fieldsOf ci.name) (fr : Free mg frees) (gc_DEEPEST : ∃ t, mg "DEEPEST" = some (.int 12 t)) (gc_FIGURES : ∃ t, mg "FIGURES" = some (.str "0123456789" t)) (gc_LETTERS : ∃ t, mg "LETTERS" = some (.str "abcdefghijklmnopqrstuvwxyz" t)) (gc_WORDS : ∃ a, mg "WORDS" = some (.ref a) ∧ TupS K a ["all", "and", "box", "call", "do", "far", "if", "in", "leaf", "near", "on", "one", "open", "out", "put", "say", "shut", "then", "to"]) (kn0 : Kn P w K mg base cs "_law_bad_term" 1 ["cell", "many"] sp0) {f : Addr} {fd : FuncData} (F : Fun K "_law_bad_ask" "_law_bad_ask" s_L_bad_ask f fd) (hm : mg "_law_bad_ask" = some (.ref f)) (hb : Binds K fd ["cell", "many", "moods"] []) {s : SpD} (hl : ∀ ds Q, s ds Q → ds.length = 3)
    (hd : ∀ ds Q, s ds Q → w_L_bad_ask sp0 { nx := fun _ => Q .non, rt := fun d _ => Q d } (env0 4 ds)) : Kn P w K mg base cs "_law_bad_ask" 2 ["cell", "many", "moods"] s :=
  ⟨f, fd, fn_pure F sc_L_bad_ask hl (fun _ _ _ _ _ _ hr => vs_L_bad_ask hC hcf fr gc_DEEPEST gc_FIGURES gc_LETTERS gc_WORDS kn0 hr) hd, hm, F.kp, hb⟩
abbrev s_L_spoil_way : Stmt := top 53
theorem sc_L_spoil_way : FnScope ["parts", "cell", "moods", "ways", "at", "way", "kind"] ["parts", "cell"] (defScope s_L_spoil_way) := ⟨rfl, rfl, rfl, by decide +kernel, rfl, by decide +kernel, by decide +kernel⟩
theorem vs_L_spoil_way {sp0 : SpD} {sp1 : SpD} {sp2 : SpD} (hC : CsOk K cs) (hcf : ∀ ci ∈ cs, ci.fields = fieldsOf ci.name) (fr : Free mg frees) (gc_DEEPEST : ∃ t, mg "DEEPEST" = some (.int 12 t)) (gc_FIGURES : ∃ t, mg "FIGURES" = some (.str "0123456789" t)) (gc_LETTERS : ∃ t, mg "LETTERS" = some (.str "abcdefghijklmnopqrstuvwxyz" t)) (gc_WORDS : ∃ a, mg "WORDS" = some (.ref a) ∧ TupS K a ["all", "and", "box", "call", "do", "far", "if", "in", "leaf", "near", "on", "one", "open", "out", "put", "say", "shut", "then", "to"]) (kn0 : Kn P w K mg base cs "_law_bad_name" 1 ["cell", "name"] sp0) (kn1 : Kn P w K mg base cs "_law_put_in" 1 ["row", "cell", "thing"] sp1) (kn2 : Kn P w K mg base cs "_law_bad_ask" 2 ["cell", "many", "moods"] sp2) {f : Addr} {cdv : Value} {A : Around} {outer : List PySem.Env} {sh : Shared} {H : Hp} {E : XK} (hr : Room 2 (A.deeper (envOfC "_law_spoil_way" (defScope s_L_spoil_way) sh.heap.objs.size f cdv))) :
    VSs (cxOf CX0 P w K mg base ["parts", "cell", "moods", "ways", "at", "way", "kind"] "_law_spoil_way" (defScope s_L_spoil_way) f cdv A outer sh H E).nox cs [0] (defBody s_L_spoil_way) (w_L_spoil_way sp0 sp1 sp2) :=
  (vss_cons (vs_set 2 (vt_callB call_len cd_len rfl (fr _ (by decide)) boot_more.1 (va_cons (vp_ix (vp_v 0) (vp_of vt_int)) va_nil)) sc_L_spoil_way.nd) (vss_cons (vs_if (vb_cmp (op_eq2 hr.units) od_eq (vp_ix (vp_v 0) (vp_of vt_int)) (vp_of (vt_lst vm_nil)) (nomark _)) (vss_one (vs_papp (pe_bm PySem.F.plainAttrs_list PySem.F.slot_list_append PySem.F.type_list_append mt_append (VPa.run (pa_ix (pa_v 0) (vp_of vt_int))) (pa_cons (VT.run (vt_tup (vm_cons vt_int (vm_cons vt_str (vm_cons (vt_tup vm_nil) (vm_cons (vt_tup vm_nil) (vm_cons vt_int (vm_cons vt_str vm_nil)))))))) pa_nil)))) vss_nil) (vss_alias 3 0 7 (pa_ix (pa_v 0) (vp_of vt_int)) (vss_cons (vs_set 4 (vt_op op_mod od_mod (vp_of (vt_op op_fdivW od_fdiv (vp_v 1) (vp_of vt_int))) (vp_of (vt_callB call_len cd_len rfl (fr _ (by decide)) boot_more.1 (va_cons (vp_v 3) va_nil)))) sc_L_spoil_way.nd) (vss_cons (vs_set 5 (vt_callTy call_list_of cd_list rfl (fr _ (by decide)) boot_tys.2.2.2.1 (va_cons (vp_ix (vp_v 3) (vp_v 4)) va_nil)) sc_L_spoil_way.nd) (vss_cons (vs_set 6 (vt_op op_mod od_mod (vp_v 1) (vp_of vt_int)) sc_L_spoil_way.nd) (vss_cons (vs_set 1 (vt_op op_fdivW od_fdiv (vp_v 1) (vp_of vt_int)) sc_L_spoil_way.nd) (vss_cons (vs_if (vb_cmp op_lt od_cmp (vp_v 6) (vp_of vt_int) (nomark _)) (vss_one (vs_pset (vt_tk (vp_ix (vp_of (vt_lst (vm_cons (vt_neg (vp_of vt_int)) (vm_cons (vt_tk (vp_v 2)) (vm_cons (vt_op op_add5 od_addG (vp_v 2) (vp_of vt_int)) vm_nil))))) (vp_v 6))) (pa_v 5) (vp_of vt_int))) (vss_one (vs_if (vb_cmp (op_eq2 hr.units) od_eq (vp_v 6) (vp_of vt_int) (nomark _)) (vss_one (vs_pset (vt_fn kn0 (hr.mono (by decide)) rfl (va_cons (vp_v 1) (va_cons (vp_of vt_str) va_nil))) (pa_v 5) (vp_of vt_int))) (vss_one (vs_if (vb_cmp (op_eq2 hr.units) od_eq (vp_v 6) (vp_of vt_int) (nomark _)) (vss_one (vs_pset (vt_tk (vp_ix (vp_of (vt_lst (vm_cons (vt_tk (vp_v 2)) (vm_cons (vt_neg (vp_of vt_int)) vm_nil)))) (vp_of (vt_op op_mod od_mod (vp_v 1) (vp_of vt_int))))) (pa_v 5) (vp_of vt_int))) (vss_one (vs_if (vb_cmp (op_eq2 hr.units) od_eq (vp_v 6) (vp_of vt_int) (nomark _)) (vss_one (vs_pset (vt_tk (vp_ix (vp_of (vt_lst (vm_cons vt_str (vm_cons vt_str (vm_cons vt_str vm_nil))))) (vp_of (vt_op op_mod od_mod (vp_v 1) (vp_of vt_int))))) (pa_v 5) (vp_of vt_int))) (vss_one (vs_if (vb_cmp (op_eq2 hr.units) od_eq (vp_v 6) (vp_of vt_int) (nomark _)) (vss_cons (vs_pset (vt_neg (vp_of vt_int)) (pa_v 5) (vp_of vt_int)) (vss_one (vs_pset (vt_tk (vp_ix (vp_of (vt_lst (vm_cons vt_str (vm_cons vt_str vm_nil)))) (vp_of (vt_op op_mod od_mod (vp_v 1) (vp_of vt_int))))) (pa_v 5) (vp_of vt_int)))) (vss_one (vs_if (vb_cmp (op_eq2 hr.units) od_eq (vp_v 6) (vp_of vt_int) (nomark _)) (vss_one (vs_pset (vt_fn kn1 (hr.mono (by decide)) rfl (va_cons (vp_ix (vp_v 5) (vp_of vt_int)) (va_cons (vp_v 1) (va_cons (vp_of (vt_fn kn2 (hr.mono (by decide)) rfl (va_cons (vp_of (vt_op op_fdivW od_fdiv (vp_v 1) (vp_of vt_int))) (va_cons (vp_of (vt_callB call_len cd_len rfl (fr _ (by decide)) boot_more.1 (va_cons (vp_ix (vp_v 0) (vp_of vt_int)) va_nil))) (va_cons (vp_v 2) va_nil))))) va_nil)))) (pa_v 5) (vp_of vt_int))) (vss_cons (vs_pset vt_int (pa_v 5) (vp_of vt_int)) (vss_one (vs_papp (pe_bm PySem.F.plainAttrs_list PySem.F.slot_list_append PySem.F.type_list_append mt_append (VPa.run (pa_v 3)) (pa_cons (VT.run (vt_tup (vm_cons vt_int (vm_cons vt_str (vm_cons (vt_tup vm_nil) (vm_cons (vt_tup vm_nil) (vm_cons (vt_neg (vp_of vt_int)) (vm_cons vt_str vm_nil)))))))) pa_nil)))))))))))))))) (vss_one (vs_pset (vt_callTy call_tuple_of cd_tuple rfl (fr _ (by decide)) boot_tys.2.2.2.2.1 (va_cons (vp_v 5) va_nil)) (pa_v 3) (vp_v 4)))))))) sc_L_spoil_way.nd)))
theorem kn_L_spoil_way {sp0 : SpD} {sp1 : SpD} {sp2 : SpD} (hC : CsOk K cs) (hcf : ∀ ci ∈ cs, ci.fields = fieldsOf ci.name) (fr : Free mg frees) (gc_DEEPEST : ∃ t, mg "DEEPEST" = some (.int 12 t)) (gc_FIGURES : ∃ t, mg "FIGURES" = some (.str "0123456789" t)) (gc_LETTERS : ∃ t, mg "LETTERS" = some (.str "abcdefghijklmnopqrstuvwxyz" t)) (gc_WORDS : ∃ a, mg "WORDS" = some (.ref a) ∧ TupS K a ["all", "and", "box", "call", "do", "far", "if", "in", "leaf", "near", "on", "one", "open", "out", "put", "say", "shut", "then", "to"]) (kn0 : Kn P w K mg base cs "_law_bad_name" 1 ["cell", "name"] sp0) (kn1 : Kn P w K mg base cs "_law_put_in" 1 ["row", "cell", "thing"] sp1) (kn2 : Kn P w K mg base cs "_law_bad_ask" 2 ["cell", "many", "moods"] sp2) {f : Addr} {fd : FuncData} (F : Fun K "_law_spoil_way" "_law_spoil_way" s_L_spoil_way f fd) (hm : mg "_law_spoil_way" = some (.ref f)) (hb : Binds K fd ["parts", "cell"] []) {s : SpM} (hl : ∀ ds Q, s ds Q → ds.length = 2)
    (hd : ∀ ds Q, s ds Q → w_L_spoil_way sp0 sp1 sp2 { nx := fun env => ∃ ds', backD [0] env 0 ds = some ds' ∧ Q .non ds', rt := fun d env => ∃ ds', backD [0] env 0 ds = some ds' ∧ Q d ds' } (env0 7 ds)) : KnG P w K mg base cs "_law_spoil_way" 3 ["parts", "cell"] [0] (noX s) :=
  ⟨f, fd, toG (fn_io [0] F sc_L_spoil_way hl (fun _ _ _ _ _ _ hr => vs_L_spoil_way hC hcf fr gc_DEEPEST gc_FIGURES gc_LETTERS gc_WORDS kn0 kn1 kn2 hr) hd), hm, F.kp, hb⟩
abbrev s_L_spoil_2 : Stmt := top 54
theorem sc_L_spoil_2 : FnScope ["parts", "which", "cell"] ["parts", "which", "cell"] (defScope s_L_spoil_2) := ⟨rfl, rfl, rfl, by decide +kernel, rfl, by decide +kernel, by decide +kernel⟩
theorem vs_L_spoil_2 {sp0 : SpM} {sp1 : SpM} {sp2 : SpM} {sp3 : SpM} {sp4 : SpM} (hC : CsOk K cs) (hcf : ∀ ci ∈ cs, ci.fields = fieldsOf ci.name) (fr : Free mg frees) (gc_DEEPEST : ∃ t, mg "DEEPEST" = some (.int 12 t)) (gc_FIGURES : ∃ t, mg "FIGURES" = some (.str "0123456789" t)) (gc_LETTERS : ∃ t, mg "LETTERS" = some (.str "abcdefghijklmnopqrstuvwxyz" t)) (gc_WORDS : ∃ a, mg "WORDS" = some (.ref a) ∧ TupS K a ["all", "and", "box", "call", "do", "far", "if", "in", "leaf", "near", "on", "one", "open", "out", "put", "say", "shut", "then", "to"]) (kn0 : KnG P w K mg base cs "_law_spoil_tree" 1 ["parts", "cell"] [0] (noX sp0)) (kn1 : KnG P w K mg base cs "_law_spoil_name" 2 ["parts", "cell"] [0] (noX sp1)) (kn2 : KnG P w K mg base cs "_law_spoil_box" 2 ["parts", "cell"] [0] (noX sp2)) (kn3 : KnG P w K mg base cs "_law_spoil_deed" 3 ["parts", "cell"] [0] (noX sp3)) (kn4 : KnG P w K mg base cs "_law_spoil_way" 3 ["parts", "cell"] [0] (noX sp4)) {f : Addr} {cdv : Value} {A : Around} {outer : List PySem.Env} {sh : Shared} {H : Hp} {E : XK} (hr : Room 3 (A.deeper (envOfC "_law_spoil" (defScope s_L_spoil_2) sh.heap.objs.size f cdv))) :
    VSs (cxOf CX0 P w K mg base ["parts", "which", "cell"] "_law_spoil" (defScope s_L_spoil_2) f cdv A outer sh H E).nox cs [0] (defBody s_L_spoil_2) (w_L_spoil_2 sp0 sp1 sp2 sp3 sp4) :=
  (vss_one (vs_if (vb_cmp (op_eq2 hr.units) od_eq (vp_v 1) (vp_of vt_int) (nomark _)) (vss_one (vs_exe (ve_call kn0 (hr.mono (by decide)) rfl takes0 (vas_io 0 (pv 0) (vas_tmp (ve_vt (vt_tk (vp_v 2))) vas_nil))))) (vss_one (vs_if (vb_cmp (op_eq2 hr.units) od_eq (vp_v 1) (vp_of vt_int) (nomark _)) (vss_one (vs_exe (ve_call kn1 (hr.mono (by decide)) rfl takes0 (vas_io 0 (pv 0) (vas_tmp (ve_vt (vt_tk (vp_v 2))) vas_nil))))) (vss_one (vs_if (vb_cmp (op_eq2 hr.units) od_eq (vp_v 1) (vp_of vt_int) (nomark _)) (vss_one (vs_exe (ve_call kn2 (hr.mono (by decide)) rfl takes0 (vas_io 0 (pv 0) (vas_tmp (ve_vt (vt_tk (vp_v 2))) vas_nil))))) (vss_one (vs_if (vb_cmp (op_eq2 hr.units) od_eq (vp_v 1) (vp_of vt_int) (nomark _)) (vss_one (vs_exe (ve_call kn3 (hr.mono (by decide)) rfl takes0 (vas_io 0 (pv 0) (vas_tmp (ve_vt (vt_tk (vp_v 2))) vas_nil))))) (vss_one (vs_exe (ve_call kn4 (hr.mono (by decide)) rfl takes0 (vas_io 0 (pv 0) (vas_tmp (ve_vt (vt_tk (vp_v 2))) vas_nil)))))))))))))
theorem kn_L_spoil_2 {sp0 : SpM} {sp1 : SpM} {sp2 : SpM} {sp3 : SpM} {sp4 : SpM} (hC : CsOk K cs) (hcf : ∀ ci ∈ cs, ci.fields = fieldsOf ci.name) (fr : Free mg frees) (gc_DEEPEST : ∃ t, mg "DEEPEST" = some (.int 12 t)) (gc_FIGURES : ∃ t, mg "FIGURES" = some (.str "0123456789" t)) (gc_LETTERS : ∃ t, mg "LETTERS" = some (.str "abcdefghijklmnopqrstuvwxyz" t)) (gc_WORDS : ∃ a, mg "WORDS" = some (.ref a) ∧ TupS K a ["all", "and", "box", "call", "do", "far", "if", "in", "leaf", "near", "on", "one", "open", "out", "put", "say", "shut", "then", "to"]) (kn0 : KnG P w K mg base cs "_law_spoil_tree" 1 ["parts", "cell"] [0] (noX sp0)) (kn1 : KnG P w K mg base cs "_law_spoil_name" 2 ["parts", "cell"] [0] (noX sp1)) (kn2 : KnG P w K mg base cs "_law_spoil_box" 2 ["parts", "cell"] [0] (noX sp2)) (kn3 : KnG P w K mg base cs "_law_spoil_deed" 3 ["parts", "cell"] [0] (noX sp3)) (kn4 : KnG P w K mg base cs "_law_spoil_way" 3 ["parts", "cell"] [0] (noX sp4)) {f : Addr} {fd : FuncData} (F : Fun K "_law_spoil" "_law_spoil" s_L_spoil_2 f fd) (hm : mg "_law_spoil" = some (.ref f)) (hb : Binds K fd ["parts", "which", "cell"] []) {s : SpM} (hl : ∀ ds Q, s ds Q → ds.length = 3)
    (hd : ∀ ds Q, s ds Q → w_L_spoil_2 sp0 sp1 sp2 sp3 sp4 { nx := fun env => ∃ ds', backD [0] env 0 ds = some ds' ∧ Q .non ds', rt := fun d env => ∃ ds', backD [0] env 0 ds = some ds' ∧ Q d ds' } (env0 3 ds)) : KnG P w K mg base cs "_law_spoil" 4 ["parts", "which", "cell"] [0] (noX s) :=
  ⟨f, fd, toG (fn_io [0] F sc_L_spoil_2 hl (fun _ _ _ _ _ _ hr => vs_L_spoil_2 hC hcf fr gc_DEEPEST gc_FIGURES gc_LETTERS gc_WORDS kn0 kn1 kn2 kn3 kn4 hr) hd), hm, F.kp, hb⟩
abbrev s_aboveG : Stmt := top 9
theorem sc_aboveG : FnScope ["tree", "mood", "found", "at"] ["tree", "mood"] (defScope s_aboveG) := ⟨rfl, rfl, rfl, by decide +kernel, rfl, by decide +kernel, by decide +kernel⟩
theorem vs_aboveG (hC : CsOk K cs) (hcf : ∀ ci ∈ cs, ci.fields = fieldsOf ci.name) (fr : Free mg frees) (gc_DEEPEST : ∃ t, mg "DEEPEST" = some (.int 12 t)) (gc_FIGURES : ∃ t, mg "FIGURES" = some (.str "0123456789" t)) (gc_LETTERS : ∃ t, mg "LETTERS" = some (.str "abcdefghijklmnopqrstuvwxyz" t)) (gc_WORDS : ∃ a, mg "WORDS" = some (.ref a) ∧ TupS K a ["all", "and", "box", "call", "do", "far", "if", "in", "leaf", "near", "on", "one", "open", "out", "put", "say", "shut", "then", "to"]) {f : Addr} {cdv : Value} {A : Around} {outer : List PySem.Env} {sh : Shared} {H : Hp} {E : XK} (hr : Room 0 (A.deeper (envOfC "above" (defScope s_aboveG) sh.heap.objs.size f cdv))) :
    VSs (cxOf CX0 P w K mg base ["tree", "mood", "found", "at"] "above" (defScope s_aboveG) f cdv A outer sh H E).nox cs [] (defBody s_aboveG) (w_aboveG) :=
  (vss_cons (vs_set 2 (vt_lst vm_nil) sc_aboveG.nd) (vss_cons (vs_set 3 (vt_tk (vp_ix (vp_fld hC (vp_v 0)) (vp_v 1))) sc_aboveG.nd) (vss_cons (vs_while PassesOwn.never (vb_cmp (op_ne2 hr.units) od_ne (vp_v 3) (vp_of (vt_neg (vp_of vt_int))) (nomark _)) (vss_cons (vs_app 2 (pe_bm PySem.F.plainAttrs_list PySem.F.slot_list_append PySem.F.type_list_append mt_append (pv 2) (pa_cons (VT.run (vt_tk (vp_v 3))) pa_nil))) (vss_one (vs_set 3 (vt_tk (vp_ix (vp_fld hC (vp_v 0)) (vp_v 3))) sc_aboveG.nd)))) (vss_one (vs_retv 2)))))
theorem kn_aboveG (hC : CsOk K cs) (hcf : ∀ ci ∈ cs, ci.fields = fieldsOf ci.name) (fr : Free mg frees) (gc_DEEPEST : ∃ t, mg "DEEPEST" = some (.int 12 t)) (gc_FIGURES : ∃ t, mg "FIGURES" = some (.str "0123456789" t)) (gc_LETTERS : ∃ t, mg "LETTERS" = some (.str "abcdefghijklmnopqrstuvwxyz" t)) (gc_WORDS : ∃ a, mg "WORDS" = some (.ref a) ∧ TupS K a ["all", "and", "box", "call", "do", "far", "if", "in", "leaf", "near", "on", "one", "open", "out", "put", "say", "shut", "then", "to"]) {f : Addr} {fd : FuncData} (F : Fun K "above" "above" s_aboveG f fd) (hm : mg "above" = some (.ref f)) (hb : Binds K fd ["tree", "mood"] []) {s : SpD} (hl : ∀ ds Q, s ds Q → ds.length = 2)
    (hd : ∀ ds Q, s ds Q → w_aboveG { nx := fun _ => Q .non, rt := fun d _ => Q d } (env0 4 ds)) : Kn P w K mg base cs "above" 1 ["tree", "mood"] s :=
  ⟨f, fd, fn_pure F sc_aboveG hl (fun _ _ _ _ _ _ hr => vs_aboveG hC hcf fr gc_DEEPEST gc_FIGURES gc_LETTERS gc_WORDS hr) hd, hm, F.kp, hb⟩
abbrev s_depthG : Stmt := top 10
theorem sc_depthG : FnScope ["tree", "mood"] ["tree", "mood"] (defScope s_depthG) := ⟨rfl, rfl, rfl, by decide +kernel, rfl, by decide +kernel, by decide +kernel⟩
theorem vs_depthG {sp0 : SpD} (hC : CsOk K cs) (hcf : ∀ ci ∈ cs, ci.fields = fieldsOf ci.name) (fr : Free mg frees) (gc_DEEPEST : ∃ t, mg "DEEPEST" = some (.int 12 t)) (gc_FIGURES : ∃ t, mg "FIGURES" = some (.str "0123456789" t)) (gc_LETTERS : ∃ t, mg "LETTERS" = some (.str "abcdefghijklmnopqrstuvwxyz" t)) (gc_WORDS : ∃ a, mg "WORDS" = some (.ref a) ∧ TupS K a ["all", "and", "box", "call", "do", "far", "if", "in", "leaf", "near", "on", "one", "open", "out", "put", "say", "shut", "then", "to"]) (kn0 : Kn P w K mg base cs "above" 1 ["tree", "mood"] sp0) {f : Addr} {cdv : Value} {A : Around} {outer : List PySem.Env} {sh : Shared} {H : Hp} {E : XK} (hr : Room 1 (A.deeper (envOfC "depth" (defScope s_depthG) sh.heap.objs.size f cdv))) :
    VSs (cxOf CX0 P w K mg base ["tree", "mood"] "depth" (defScope s_depthG) f cdv A outer sh H E).nox cs [] (defBody s_depthG) (w_depthG sp0) :=
  (vss_one (vs_ret (vt_callB call_len cd_len rfl (fr _ (by decide)) boot_more.1 (va_cons (vp_of (vt_fn kn0 (hr.mono (by decide)) rfl (va_cons (vp_v 0) (va_cons (vp_v 1) va_nil)))) va_nil))))
theorem kn_depthG {sp0 : SpD} (hC : CsOk K cs) (hcf : ∀ ci ∈ cs, ci.fields = fieldsOf ci.name) (fr : Free mg frees) (gc_DEEPEST : ∃ t, mg "DEEPEST" = some (.int 12 t)) (gc_FIGURES : ∃ t, mg "FIGURES" = some (.str "0123456789" t)) (gc_LETTERS : ∃ t, mg "LETTERS" = some (.str "abcdefghijklmnopqrstuvwxyz" t)) (gc_WORDS : ∃ a, mg "WORDS" = some (.ref a) ∧ TupS K a ["all", "and", "box", "call", "do", "far", "if", "in", "leaf", "near", "on", "one", "open", "out", "put", "say", "shut", "then", "to"]) (kn0 : Kn P w K mg base cs "above" 1 ["tree", "mood"] sp0) {f : Addr} {fd : FuncData} (F : Fun K "depth" "depth" s_depthG f fd) (hm : mg "depth" = some (.ref f)) (hb : Binds K fd ["tree", "mood"] []) {s : SpD} (hl : ∀ ds Q, s ds Q → ds.length = 2)
    (hd : ∀ ds Q, s ds Q → w_depthG sp0 { nx := fun _ => Q .non, rt := fun d _ => Q d } (env0 2 ds)) : Kn P w K mg base cs "depth" 2 ["tree", "mood"] s :=
  ⟨f, fd, fn_pure F sc_depthG hl (fun _ _ _ _ _ _ hr => vs_depthG hC hcf fr gc_DEEPEST gc_FIGURES gc_LETTERS gc_WORDS kn0 hr) hd, hm, F.kp, hb⟩
abbrev s_look_at_numbersX : Stmt := top 21
theorem sc_look_at_numbersX : FnScope ["chart", "tree", "many", "mood"] ["chart"] (defScope s_look_at_numbersX) := ⟨rfl, rfl, rfl, by decide +kernel, rfl, by decide +kernel, by decide +kernel⟩
theorem vs_look_at_numbersX {sp0 : SpD} {sp1 : SpD} (hC : CsOk K cs) (hcf : ∀ ci ∈ cs, ci.fields = fieldsOf ci.name) (fr : Free mg frees) (gc_DEEPEST : ∃ t, mg "DEEPEST" = some (.int 12 t)) (gc_FIGURES : ∃ t, mg "FIGURES" = some (.str "0123456789" t)) (gc_LETTERS : ∃ t, mg "LETTERS" = some (.str "abcdefghijklmnopqrstuvwxyz" t)) (gc_WORDS : ∃ a, mg "WORDS" = some (.ref a) ∧ TupS K a ["all", "and", "box", "call", "do", "far", "if", "in", "leaf", "near", "on", "one", "open", "out", "put", "say", "shut", "then", "to"]) (kn0 : Kn P w K mg base cs "above" 1 ["tree", "mood"] sp0) (kn1 : Kn P w K mg base cs "depth" 2 ["tree", "mood"] sp1) (knx_BadTree : KnX K mg cs "BadTree") {f : Addr} {cdv : Value} {A : Around} {outer : List PySem.Env} {sh : Shared} {H : Hp} {E : XK} (hr : Room 2 (A.deeper (envOfC "look_at_numbers" (defScope s_look_at_numbersX) sh.heap.objs.size f cdv)))
    (tk : L2.Takes (cxOf (L2.CX P w) P w K mg base ["chart", "tree", "many", "mood"] "look_at_numbers" (defScope s_look_at_numbersX) f cdv A outer sh H E) (fun cls d _ H => E cls d H)) : VSsX (cxOf (L2.CX P w) P w K mg base ["chart", "tree", "many", "mood"] "look_at_numbers" (defScope s_look_at_numbersX) f cdv A outer sh H E) cs (fun cls d _ H => E cls d H) [] (defBody s_look_at_numbersX) (w_look_at_numbersX sp0 sp1) :=
  (vssx_cons (vsx_of (vs_set 1 (vt_tk (vp_fld hC (vp_v 0))) sc_look_at_numbersX.nd)) (vssx_cons (vsx_of (vs_set 2 (vt_callB call_len cd_len rfl (fr _ (by decide)) boot_more.1 (va_cons (vp_fld hC (vp_v 1)) va_nil)) sc_look_at_numbersX.nd)) (vssx_cons (vsx_if (VW.vb (vw_or (vb_cmp (op_eq2 hr.units) od_eq (vp_v 2) (vp_of vt_int) (nomark _)) (vw_or (vb_cmp (op_ne2 hr.units) od_ne (vp_of (vt_callB call_len cd_len rfl (fr _ (by decide)) boot_more.1 (va_cons (vp_fld hC (vp_v 1)) va_nil))) (vp_v 2) (nomark _)) (vw_or (vb_cmp (op_ne2 hr.units) od_ne (vp_of (vt_callB call_len cd_len rfl (fr _ (by decide)) boot_more.1 (va_cons (vp_fld hC (vp_v 1)) va_nil))) (vp_v 2) (nomark _)) (vw_or1 (vb_cmp (op_ne2 hr.units) od_ne (vp_of (vt_callB call_len cd_len rfl (fr _ (by decide)) boot_more.1 (va_cons (vp_fld hC (vp_v 0)) va_nil))) (vp_v 2) (nomark _))))))) (vssx_one (vsx_raise rfl knx_BadTree tk rfl)) vssx_nil) (vssx_cons (vsx_if (vb_cmp (op_ne2 hr.units) od_ne (vp_ix (vp_fld hC (vp_v 1)) (vp_of vt_int)) (vp_of (vt_neg (vp_of vt_int))) (nomark _)) (vssx_one (vsx_raise rfl knx_BadTree tk rfl)) vssx_nil) (vssx_one (vsx_for 3 (passes_of rfl) rfl (vi_rng2 rfl (fr _ (by decide)) (va_cons (vp_of vt_int) (va_cons (vp_v 2) va_nil))) sc_look_at_numbersX.nd (vssx_cons (vsx_if (VW.vb (vw_and (vb_cmp (op_ne2 hr.units) od_ne (vp_ix (vp_fld hC (vp_v 1)) (vp_v 3)) (vp_of (vt_op op_sub od_sub (vp_v 3) (vp_of vt_int))) (nomark _)) (vw_and1 (vb_cmp op_nin2 od_in (vp_ix (vp_fld hC (vp_v 1)) (vp_v 3)) (vp_of (vt_fn kn0 (hr.mono (by decide)) rfl (va_cons (vp_v 1) (va_cons (vp_of (vt_op op_sub od_sub (vp_v 3) (vp_of vt_int))) va_nil)))) (by rfl))))) (vssx_one (vsx_raise rfl knx_BadTree tk rfl)) vssx_nil) (vssx_one (vsx_if (vb_cmp op_gt od_cmp (vp_of (vt_fn kn1 (hr.mono (by decide)) rfl (va_cons (vp_v 1) (va_cons (vp_v 3) va_nil)))) (vp_of (vt_gint rfl gc_DEEPEST)) (nomark _)) (vssx_one (vsx_raise rfl knx_BadTree tk rfl)) vssx_nil)))))))))
theorem kn_look_at_numbersX {sp0 : SpD} {sp1 : SpD} (hC : CsOk K cs) (hcf : ∀ ci ∈ cs, ci.fields = fieldsOf ci.name) (fr : Free mg frees) (gc_DEEPEST : ∃ t, mg "DEEPEST" = some (.int 12 t)) (gc_FIGURES : ∃ t, mg "FIGURES" = some (.str "0123456789" t)) (gc_LETTERS : ∃ t, mg "LETTERS" = some (.str "abcdefghijklmnopqrstuvwxyz" t)) (gc_WORDS : ∃ a, mg "WORDS" = some (.ref a) ∧ TupS K a ["all", "and", "box", "call", "do", "far", "if", "in", "leaf", "near", "on", "one", "open", "out", "put", "say", "shut", "then", "to"]) (kn0 : Kn P w K mg base cs "above" 1 ["tree", "mood"] sp0) (kn1 : Kn P w K mg base cs "depth" 2 ["tree", "mood"] sp1) (knx_BadTree : KnX K mg cs "BadTree") {f : Addr} {fd : FuncData} (F : Fun K "look_at_numbers" "look_at_numbers" s_look_at_numbersX f fd) (hm : mg "look_at_numbers" = some (.ref f)) (hb : Binds K fd ["chart"] []) {s : SpG} (hl : ∀ ds QD QX, s ds QD QX → ds.length = 1)
    (hd : ∀ ds QD QX, s ds QD QX → w_look_at_numbersX sp0 sp1 { nx := fun env => ∃ ds', backD [] env 0 ds = some ds' ∧ QD .non ds', rt := fun d env => ∃ ds', backD [] env 0 ds = some ds' ∧ QD d ds', ex := fun xc env => ∃ ds', backD [] env 0 ds = some ds' ∧ QX xc ds' } (env0 4 ds)) : KnG P w K mg base cs "look_at_numbers" 3 ["chart"] [] s :=
  ⟨f, fd, fn_G [] F sc_look_at_numbersX hl (fun _ _ _ _ _ _ hr tk => vs_look_at_numbersX hC hcf fr gc_DEEPEST gc_FIGURES gc_LETTERS gc_WORDS kn0 kn1 knx_BadTree hr tk) hd, hm, F.kp, hb⟩
abbrev s_inner : Stmt := top 11
theorem sc_inner : FnScope ["tree", "mood", "k"] ["tree", "mood"] (defScope s_inner) := ⟨rfl, rfl, rfl, by decide +kernel, rfl, by decide +kernel, by decide +kernel⟩
theorem vs_inner (hC : CsOk K cs) (hcf : ∀ ci ∈ cs, ci.fields = fieldsOf ci.name) (fr : Free mg frees) (gc_DEEPEST : ∃ t, mg "DEEPEST" = some (.int 12 t)) (gc_FIGURES : ∃ t, mg "FIGURES" = some (.str "0123456789" t)) (gc_LETTERS : ∃ t, mg "LETTERS" = some (.str "abcdefghijklmnopqrstuvwxyz" t)) (gc_WORDS : ∃ a, mg "WORDS" = some (.ref a) ∧ TupS K a ["all", "and", "box", "call", "do", "far", "if", "in", "leaf", "near", "on", "one", "open", "out", "put", "say", "shut", "then", "to"]) {f : Addr} {cdv : Value} {A : Around} {outer : List PySem.Env} {sh : Shared} {H : Hp} {E : XK} (hr : Room 0 (A.deeper (envOfC "inner" (defScope s_inner) sh.heap.objs.size f cdv))) :
    VSs (cxOf CX0 P w K mg base ["tree", "mood", "k"] "inner" (defScope s_inner) f cdv A outer sh H E).nox cs [] (defBody s_inner) (w_inner) :=
  (vss_one (vs_ret (vt_lc 2 rfl sc_inner.nd (vi_rng1 rfl (fr _ (by decide)) (va_cons (vp_of (vt_callB call_len cd_len rfl (fr _ (by decide)) boot_more.1 (va_cons (vp_fld hC (vp_v 0)) va_nil))) va_nil)) (blkOk_by (N := ["tree", "mood", "k"]) (sc := defScope s_inner) (by decide +kernel)) (fun _ _ _ _ _ => pg_name sc_inner.nd rfl (Or.inl rfl)) (fun _ _ _ _ _ => (vts_one (vb_cmp (op_eq2 hr.units) od_eq (vp_ix (vp_fld hC (vp_v 0)) (vp_v 2)) (vp_v 1) (nomark _)))) (fun _ _ _ _ _ => (vt_tk (vp_v 2))))))
theorem kn_inner (hC : CsOk K cs) (hcf : ∀ ci ∈ cs, ci.fields = fieldsOf ci.name) (fr : Free mg frees) (gc_DEEPEST : ∃ t, mg "DEEPEST" = some (.int 12 t)) (gc_FIGURES : ∃ t, mg "FIGURES" = some (.str "0123456789" t)) (gc_LETTERS : ∃ t, mg "LETTERS" = some (.str "abcdefghijklmnopqrstuvwxyz" t)) (gc_WORDS : ∃ a, mg "WORDS" = some (.ref a) ∧ TupS K a ["all", "and", "box", "call", "do", "far", "if", "in", "leaf", "near", "on", "one", "open", "out", "put", "say", "shut", "then", "to"]) {f : Addr} {fd : FuncData} (F : Fun K "inner" "inner" s_inner f fd) (hm : mg "inner" = some (.ref f)) (hb : Binds K fd ["tree", "mood"] []) {s : SpD} (hl : ∀ ds Q, s ds Q → ds.length = 2)
    (hd : ∀ ds Q, s ds Q → w_inner { nx := fun _ => Q .non, rt := fun d _ => Q d } (env0 3 ds)) : Kn P w K mg base cs "inner" 1 ["tree", "mood"] s :=
  ⟨f, fd, fn_pure F sc_inner hl (fun _ _ _ _ _ _ hr => vs_inner hC hcf fr gc_DEEPEST gc_FIGURES gc_LETTERS gc_WORDS hr) hd, hm, F.kp, hb⟩
abbrev s_look_at_kindsX : Stmt := top 22
theorem sc_look_at_kindsX : FnScope ["tree", "mood", "near", "kind", "start"] ["tree"] (defScope s_look_at_kindsX) := ⟨rfl, rfl, rfl, by decide +kernel, rfl, by decide +kernel, by decide +kernel⟩
theorem vs_look_at_kindsX {sp0 : SpD} (hC : CsOk K cs) (hcf : ∀ ci ∈ cs, ci.fields = fieldsOf ci.name) (fr : Free mg frees) (gc_DEEPEST : ∃ t, mg "DEEPEST" = some (.int 12 t)) (gc_FIGURES : ∃ t, mg "FIGURES" = some (.str "0123456789" t)) (gc_LETTERS : ∃ t, mg "LETTERS" = some (.str "abcdefghijklmnopqrstuvwxyz" t)) (gc_WORDS : ∃ a, mg "WORDS" = some (.ref a) ∧ TupS K a ["all", "and", "box", "call", "do", "far", "if", "in", "leaf", "near", "on", "one", "open", "out", "put", "say", "shut", "then", "to"]) (kn0 : Kn P w K mg base cs "inner" 1 ["tree", "mood"] sp0) (knx_BadTree : KnX K mg cs "BadTree") {f : Addr} {cdv : Value} {A : Around} {outer : List PySem.Env} {sh : Shared} {H : Hp} {E : XK} (hr : Room 1 (A.deeper (envOfC "look_at_kinds" (defScope s_look_at_kindsX) sh.heap.objs.size f cdv)))
    (tk : L2.Takes (cxOf (L2.CX P w) P w K mg base ["tree", "mood", "near", "kind", "start"] "look_at_kinds" (defScope s_look_at_kindsX) f cdv A outer sh H E) (fun cls d _ H => E cls d H)) : VSsX (cxOf (L2.CX P w) P w K mg base ["tree", "mood", "near", "kind", "start"] "look_at_kinds" (defScope s_look_at_kindsX) f cdv A outer sh H E) cs (fun cls d _ H => E cls d H) [] (defBody s_look_at_kindsX) (w_look_at_kindsX sp0) :=
  (vssx_one (vsx_for 1 (passes_of rfl) rfl (vi_rng1 rfl (fr _ (by decide)) (va_cons (vp_of (vt_callB call_len cd_len rfl (fr _ (by decide)) boot_more.1 (va_cons (vp_fld hC (vp_v 0)) va_nil))) va_nil)) sc_look_at_kindsX.nd (vssx_cons (vsx_of (vs_set 2 (vt_fn kn0 (hr.mono (by decide)) rfl (va_cons (vp_v 0) (va_cons (vp_v 1) va_nil))) sc_look_at_kindsX.nd)) (vssx_cons (vsx_of (vs_set 3 (vt_tk (vp_ix (vp_fld hC (vp_v 0)) (vp_v 1))) sc_look_at_kindsX.nd)) (vssx_cons (vsx_of (vs_set 4 (vt_tk (vp_ix (vp_fld hC (vp_v 0)) (vp_v 1))) sc_look_at_kindsX.nd)) (vssx_cons (vsx_if (vb_cmp op_nin2 od_in (vp_v 3) (vp_of (vt_tup (vm_cons vt_str (vm_cons vt_str (vm_cons vt_str vm_nil))))) (by rfl)) (vssx_one (vsx_raise rfl knx_BadTree tk rfl)) vssx_nil) (vssx_cons (vsx_if (vb_cmp (op_ne2 hr.units) od_ne (vp_of (vt_cmp (op_eq2 hr.units) od_eq (vp_v 3) (vp_of vt_str) (nomark _))) (vp_of (vt_cmp (op_eq2 hr.units) od_eq (vp_v 2) (vp_of (vt_lst vm_nil)) (nomark _))) (nomark _)) (vssx_one (vsx_raise rfl knx_BadTree tk rfl)) vssx_nil) (vssx_one (vsx_if (VW.vb (vw_or (VW.vb (vw_and (vb_cmp (op_eq2 hr.units) od_eq (vp_v 3) (vp_of vt_str) (nomark _)) (vw_and1 (vb_cmp op_nin2 od_in (vp_v 4) (vp_v 2) (by rfl))))) (vw_or1 (VW.vb (vw_and (vb_cmp (op_ne2 hr.units) od_ne (vp_v 3) (vp_of vt_str) (nomark _)) (vw_and1 (vb_cmp (op_ne2 hr.units) od_ne (vp_v 4) (vp_of (vt_neg (vp_of vt_int))) (nomark _)))))))) (vssx_one (vsx_raise rfl knx_BadTree tk rfl)) vssx_nil)))))))))
theorem kn_look_at_kindsX {sp0 : SpD} (hC : CsOk K cs) (hcf : ∀ ci ∈ cs, ci.fields = fieldsOf ci.name) (fr : Free mg frees) (gc_DEEPEST : ∃ t, mg "DEEPEST" = some (.int 12 t)) (gc_FIGURES : ∃ t, mg "FIGURES" = some (.str "0123456789" t)) (gc_LETTERS : ∃ t, mg "LETTERS" = some (.str "abcdefghijklmnopqrstuvwxyz" t)) (gc_WORDS : ∃ a, mg "WORDS" = some (.ref a) ∧ TupS K a ["all", "and", "box", "call", "do", "far", "if", "in", "leaf", "near", "on", "one", "open", "out", "put", "say", "shut", "then", "to"]) (kn0 : Kn P w K mg base cs "inner" 1 ["tree", "mood"] sp0) (knx_BadTree : KnX K mg cs "BadTree") {f : Addr} {fd : FuncData} (F : Fun K "look_at_kinds" "look_at_kinds" s_look_at_kindsX f fd) (hm : mg "look_at_kinds" = some (.ref f)) (hb : Binds K fd ["tree"] []) {s : SpG} (hl : ∀ ds QD QX, s ds QD QX → ds.length = 1)
    (hd : ∀ ds QD QX, s ds QD QX → w_look_at_kindsX sp0 { nx := fun env => ∃ ds', backD [] env 0 ds = some ds' ∧ QD .non ds', rt := fun d env => ∃ ds', backD [] env 0 ds = some ds' ∧ QD d ds', ex := fun xc env => ∃ ds', backD [] env 0 ds = some ds' ∧ QX xc ds' } (env0 5 ds)) : KnG P w K mg base cs "look_at_kinds" 2 ["tree"] [] s :=
  ⟨f, fd, fn_G [] F sc_look_at_kindsX hl (fun _ _ _ _ _ _ hr tk => vs_look_at_kindsX hC hcf fr gc_DEEPEST gc_FIGURES gc_LETTERS gc_WORDS kn0 knx_BadTree hr tk) hd, hm, F.kp, hb⟩
abbrev s_is_name : Stmt := top 17
theorem sc_is_name : FnScope ["text", "sign"] ["text"] (defScope s_is_name) := ⟨rfl, rfl, rfl, by decide +kernel, rfl, by decide +kernel, by decide +kernel⟩
theorem vs_is_name (hC : CsOk K cs) (hcf : ∀ ci ∈ cs, ci.fields = fieldsOf ci.name) (fr : Free mg frees) (gc_DEEPEST : ∃ t, mg "DEEPEST" = some (.int 12 t)) (gc_FIGURES : ∃ t, mg "FIGURES" = some (.str "0123456789" t)) (gc_LETTERS : ∃ t, mg "LETTERS" = some (.str "abcdefghijklmnopqrstuvwxyz" t)) (gc_WORDS : ∃ a, mg "WORDS" = some (.ref a) ∧ TupS K a ["all", "and", "box", "call", "do", "far", "if", "in", "leaf", "near", "on", "one", "open", "out", "put", "say", "shut", "then", "to"]) {f : Addr} {cdv : Value} {A : Around} {outer : List PySem.Env} {sh : Shared} {H : Hp} {E : XK} (hr : Room 0 (A.deeper (envOfC "is_name" (defScope s_is_name) sh.heap.objs.size f cdv))) :
    VSs (cxOf CX0 P w K mg base ["text", "sign"] "is_name" (defScope s_is_name) f cdv A outer sh H E).nox cs [] (defBody s_is_name) (w_is_name) :=
  (vss_cons (vs_if (VW.vb (vw_or (vb_cmp (op_eq2 hr.units) od_eq (vp_v 0) (vp_of vt_str) (nomark _)) (vw_or (vb_cmp op_gt od_cmp (vp_of (vt_callB call_len cd_len rfl (fr _ (by decide)) boot_more.1 (va_cons (vp_v 0) va_nil))) (vp_of vt_int) (nomark _)) (vw_or1 (vb_cmp op_in2 od_in (vp_v 0) (vp_of (vt_gtup rfl gc_WORDS)) (by rfl)))))) (vss_one (vs_ret vt_bl)) vss_nil) (vss_cons (vs_if (vb_cmp op_nin2 od_in (vp_ix (vp_v 0) (vp_of vt_int)) (vp_of (vt_gstr rfl gc_LETTERS)) (by rfl)) (vss_one (vs_ret vt_bl)) vss_nil) (vss_cons (vs_for 1 PassesOwn.never rfl (vi_seq (vt_tk (vp_v 0))) sc_is_name.nd (vss_one (vs_if (VW.vb (vw_and (vb_cmp op_nin2 od_in (vp_v 1) (vp_of (vt_gstr rfl gc_LETTERS)) (by rfl)) (vw_and1 (vb_cmp op_nin2 od_in (vp_v 1) (vp_of (vt_gstr rfl gc_FIGURES)) (by rfl))))) (vss_one (vs_ret vt_bl)) vss_nil))) (vss_one (vs_ret vt_bl)))))
theorem kn_is_name (hC : CsOk K cs) (hcf : ∀ ci ∈ cs, ci.fields = fieldsOf ci.name) (fr : Free mg frees) (gc_DEEPEST : ∃ t, mg "DEEPEST" = some (.int 12 t)) (gc_FIGURES : ∃ t, mg "FIGURES" = some (.str "0123456789" t)) (gc_LETTERS : ∃ t, mg "LETTERS" = some (.str "abcdefghijklmnopqrstuvwxyz" t)) (gc_WORDS : ∃ a, mg "WORDS" = some (.ref a) ∧ TupS K a ["all", "and", "box", "call", "do", "far", "if", "in", "leaf", "near", "on", "one", "open", "out", "put", "say", "shut", "then", "to"]) {f : Addr} {fd : FuncData} (F : Fun K "is_name" "is_name" s_is_name f fd) (hm : mg "is_name" = some (.ref f)) (hb : Binds K fd ["text"] []) {s : SpD} (hl : ∀ ds Q, s ds Q → ds.length = 1)
    (hd : ∀ ds Q, s ds Q → w_is_name { nx := fun _ => Q .non, rt := fun d _ => Q d } (env0 2 ds)) : Kn P w K mg base cs "is_name" 1 ["text"] s :=
  ⟨f, fd, fn_pure F sc_is_name hl (fun _ _ _ _ _ _ hr => vs_is_name hC hcf fr gc_DEEPEST gc_FIGURES gc_LETTERS gc_WORDS hr) hd, hm, F.kp, hb⟩
abbrev s_look_at_namesX : Stmt := top 23
theorem sc_look_at_namesX : FnScope ["chart", "met", "name"] ["chart"] (defScope s_look_at_namesX) := ⟨rfl, rfl, rfl, by decide +kernel, rfl, by decide +kernel, by decide +kernel⟩
theorem vs_look_at_namesX {sp0 : SpD} (hC : CsOk K cs) (hcf : ∀ ci ∈ cs, ci.fields = fieldsOf ci.name) (fr : Free mg frees) (gc_DEEPEST : ∃ t, mg "DEEPEST" = some (.int 12 t)) (gc_FIGURES : ∃ t, mg "FIGURES" = some (.str "0123456789" t)) (gc_LETTERS : ∃ t, mg "LETTERS" = some (.str "abcdefghijklmnopqrstuvwxyz" t)) (gc_WORDS : ∃ a, mg "WORDS" = some (.ref a) ∧ TupS K a ["all", "and", "box", "call", "do", "far", "if", "in", "leaf", "near", "on", "one", "open", "out", "put", "say", "shut", "then", "to"]) (kn0 : Kn P w K mg base cs "is_name" 1 ["text"] sp0) (knx_BadName : KnX K mg cs "BadName") {f : Addr} {cdv : Value} {A : Around} {outer : List PySem.Env} {sh : Shared} {H : Hp} {E : XK} (hr : Room 1 (A.deeper (envOfC "look_at_names" (defScope s_look_at_namesX) sh.heap.objs.size f cdv)))
    (tk : L2.Takes (cxOf (L2.CX P w) P w K mg base ["chart", "met", "name"] "look_at_names" (defScope s_look_at_namesX) f cdv A outer sh H E) (fun cls d _ H => E cls d H)) : VSsX (cxOf (L2.CX P w) P w K mg base ["chart", "met", "name"] "look_at_names" (defScope s_look_at_namesX) f cdv A outer sh H E) cs (fun cls d _ H => E cls d H) [] (defBody s_look_at_namesX) (w_look_at_namesX sp0) :=
  (vssx_cons (vsx_of (vs_set 1 vt_dnew sc_look_at_namesX.nd)) (vssx_one (vsx_for 2 (passes_of rfl) rfl (vi_seq (vt_tk (vp_fld hC (vp_v 0)))) sc_look_at_namesX.nd (vssx_cons (vsx_if (VW.vb (vw_or (vb_not (vb_val (vp_of (vt_fn kn0 (hr.mono (by decide)) rfl (va_cons (vp_v 2) va_nil))))) (vw_or1 (vb_cmp (op_inK hr.units) od_inK (vp_v 2) (vp_v 1) (by rfl))))) (vssx_one (vsx_raise rfl knx_BadName tk rfl)) vssx_nil) (vssx_one (vsx_of (vs_pdset hr.units vt_bl (pa_v 1) (vp_v 2))))))))
theorem kn_look_at_namesX {sp0 : SpD} (hC : CsOk K cs) (hcf : ∀ ci ∈ cs, ci.fields = fieldsOf ci.name) (fr : Free mg frees) (gc_DEEPEST : ∃ t, mg "DEEPEST" = some (.int 12 t)) (gc_FIGURES : ∃ t, mg "FIGURES" = some (.str "0123456789" t)) (gc_LETTERS : ∃ t, mg "LETTERS" = some (.str "abcdefghijklmnopqrstuvwxyz" t)) (gc_WORDS : ∃ a, mg "WORDS" = some (.ref a) ∧ TupS K a ["all", "and", "box", "call", "do", "far", "if", "in", "leaf", "near", "on", "one", "open", "out", "put", "say", "shut", "then", "to"]) (kn0 : Kn P w K mg base cs "is_name" 1 ["text"] sp0) (knx_BadName : KnX K mg cs "BadName") {f : Addr} {fd : FuncData} (F : Fun K "look_at_names" "look_at_names" s_look_at_namesX f fd) (hm : mg "look_at_names" = some (.ref f)) (hb : Binds K fd ["chart"] []) {s : SpG} (hl : ∀ ds QD QX, s ds QD QX → ds.length = 1)
    (hd : ∀ ds QD QX, s ds QD QX → w_look_at_namesX sp0 { nx := fun env => ∃ ds', backD [] env 0 ds = some ds' ∧ QD .non ds', rt := fun d env => ∃ ds', backD [] env 0 ds = some ds' ∧ QD d ds', ex := fun xc env => ∃ ds', backD [] env 0 ds = some ds' ∧ QX xc ds' } (env0 3 ds)) : KnG P w K mg base cs "look_at_names" 2 ["chart"] [] s :=
  ⟨f, fd, fn_G [] F sc_look_at_namesX hl (fun _ _ _ _ _ _ hr tk => vs_look_at_namesX hC hcf fr gc_DEEPEST gc_FIGURES gc_LETTERS gc_WORDS kn0 knx_BadName hr tk) hd, hm, F.kp, hb⟩
abbrev s_in_boundsG : Stmt := top 20
theorem sc_in_boundsG : FnScope ["number"] ["number"] (defScope s_in_boundsG) := ⟨rfl, rfl, rfl, by decide +kernel, rfl, by decide +kernel, by decide +kernel⟩
theorem vs_in_boundsG (hC : CsOk K cs) (hcf : ∀ ci ∈ cs, ci.fields = fieldsOf ci.name) (fr : Free mg frees) (gc_DEEPEST : ∃ t, mg "DEEPEST" = some (.int 12 t)) (gc_FIGURES : ∃ t, mg "FIGURES" = some (.str "0123456789" t)) (gc_LETTERS : ∃ t, mg "LETTERS" = some (.str "abcdefghijklmnopqrstuvwxyz" t)) (gc_WORDS : ∃ a, mg "WORDS" = some (.ref a) ∧ TupS K a ["all", "and", "box", "call", "do", "far", "if", "in", "leaf", "near", "on", "one", "open", "out", "put", "say", "shut", "then", "to"]) {f : Addr} {cdv : Value} {A : Around} {outer : List PySem.Env} {sh : Shared} {H : Hp} {E : XK} (hr : Room 0 (A.deeper (envOfC "in_bounds" (defScope s_in_boundsG) sh.heap.objs.size f cdv))) :
    VSs (cxOf CX0 P w K mg base ["number"] "in_bounds" (defScope s_in_boundsG) f cdv A outer sh H E).nox cs [] (defBody s_in_boundsG) (w_in_boundsG) :=
  (vss_one (vs_ret (vt_tk (vp_and (vp_of (vt_cmp op_lt od_cmp (vp_of (vt_neg (vp_of (vt_op op_pow od_pow (vp_of vt_int) (vp_of vt_int))))) (vp_v 0) (nomark _))) (vp_one (vp_of (vt_cmp op_lt od_cmp (vp_v 0) (vp_of (vt_op op_pow od_pow (vp_of vt_int) (vp_of vt_int))) (nomark _))))))))
theorem kn_in_boundsG (hC : CsOk K cs) (hcf : ∀ ci ∈ cs, ci.fields = fieldsOf ci.name) (fr : Free mg frees) (gc_DEEPEST : ∃ t, mg "DEEPEST" = some (.int 12 t)) (gc_FIGURES : ∃ t, mg "FIGURES" = some (.str "0123456789" t)) (gc_LETTERS : ∃ t, mg "LETTERS" = some (.str "abcdefghijklmnopqrstuvwxyz" t)) (gc_WORDS : ∃ a, mg "WORDS" = some (.ref a) ∧ TupS K a ["all", "and", "box", "call", "do", "far", "if", "in", "leaf", "near", "on", "one", "open", "out", "put", "say", "shut", "then", "to"]) {f : Addr} {fd : FuncData} (F : Fun K "in_bounds" "in_bounds" s_in_boundsG f fd) (hm : mg "in_bounds" = some (.ref f)) (hb : Binds K fd ["number"] []) {s : SpD} (hl : ∀ ds Q, s ds Q → ds.length = 1)
    (hd : ∀ ds Q, s ds Q → w_in_boundsG { nx := fun _ => Q .non, rt := fun d _ => Q d } (env0 1 ds)) : Kn P w K mg base cs "in_bounds" 1 ["number"] s :=
  ⟨f, fd, fn_pure F sc_in_boundsG hl (fun _ _ _ _ _ _ hr => vs_in_boundsG hC hcf fr gc_DEEPEST gc_FIGURES gc_LETTERS gc_WORDS hr) hd, hm, F.kp, hb⟩
abbrev s_look_at_boxesX : Stmt := top 24
theorem sc_look_at_boxesX : FnScope ["chart", "met", "box"] ["chart"] (defScope s_look_at_boxesX) := ⟨rfl, rfl, rfl, by decide +kernel, rfl, by decide +kernel, by decide +kernel⟩
theorem vs_look_at_boxesX {sp0 : SpD} {sp1 : SpD} (hC : CsOk K cs) (hcf : ∀ ci ∈ cs, ci.fields = fieldsOf ci.name) (fr : Free mg frees) (gc_DEEPEST : ∃ t, mg "DEEPEST" = some (.int 12 t)) (gc_FIGURES : ∃ t, mg "FIGURES" = some (.str "0123456789" t)) (gc_LETTERS : ∃ t, mg "LETTERS" = some (.str "abcdefghijklmnopqrstuvwxyz" t)) (gc_WORDS : ∃ a, mg "WORDS" = some (.ref a) ∧ TupS K a ["all", "and", "box", "call", "do", "far", "if", "in", "leaf", "near", "on", "one", "open", "out", "put", "say", "shut", "then", "to"]) (kn0 : Kn P w K mg base cs "is_name" 1 ["text"] sp0) (kn1 : Kn P w K mg base cs "in_bounds" 1 ["number"] sp1) (knx_BadBox : KnX K mg cs "BadBox") {f : Addr} {cdv : Value} {A : Around} {outer : List PySem.Env} {sh : Shared} {H : Hp} {E : XK} (hr : Room 1 (A.deeper (envOfC "look_at_boxes" (defScope s_look_at_boxesX) sh.heap.objs.size f cdv)))
    (tk : L2.Takes (cxOf (L2.CX P w) P w K mg base ["chart", "met", "box"] "look_at_boxes" (defScope s_look_at_boxesX) f cdv A outer sh H E) (fun cls d _ H => E cls d H)) : VSsX (cxOf (L2.CX P w) P w K mg base ["chart", "met", "box"] "look_at_boxes" (defScope s_look_at_boxesX) f cdv A outer sh H E) cs (fun cls d _ H => E cls d H) [] (defBody s_look_at_boxesX) (w_look_at_boxesX sp0 sp1) :=
  (vssx_cons (vsx_of (vs_set 1 vt_dnew sc_look_at_boxesX.nd)) (vssx_one (vsx_for 2 (passes_of rfl) rfl (vi_seq (vt_tk (vp_fld hC (vp_v 0)))) sc_look_at_boxesX.nd (vssx_cons (vsx_if (VW.vb (vw_or (vb_not (vb_val (vp_of (vt_fn kn0 (hr.mono (by decide)) rfl (va_cons (vp_ix (vp_v 2) (vp_of vt_int)) va_nil))))) (vw_or (vb_cmp (op_inK hr.units) od_inK (vp_ix (vp_v 2) (vp_of vt_int)) (vp_v 1) (by rfl)) (vw_or1 (vb_not (vb_val (vp_of (vt_fn kn1 (hr.mono (by decide)) rfl (va_cons (vp_ix (vp_v 2) (vp_of vt_int)) va_nil))))))))) (vssx_one (vsx_raise rfl knx_BadBox tk rfl)) vssx_nil) (vssx_one (vsx_of (vs_pdset hr.units vt_bl (pa_v 1) (vp_ix (vp_v 2) (vp_of vt_int)))))))))
theorem kn_look_at_boxesX {sp0 : SpD} {sp1 : SpD} (hC : CsOk K cs) (hcf : ∀ ci ∈ cs, ci.fields = fieldsOf ci.name) (fr : Free mg frees) (gc_DEEPEST : ∃ t, mg "DEEPEST" = some (.int 12 t)) (gc_FIGURES : ∃ t, mg "FIGURES" = some (.str "0123456789" t)) (gc_LETTERS : ∃ t, mg "LETTERS" = some (.str "abcdefghijklmnopqrstuvwxyz" t)) (gc_WORDS : ∃ a, mg "WORDS" = some (.ref a) ∧ TupS K a ["all", "and", "box", "call", "do", "far", "if", "in", "leaf", "near", "on", "one", "open", "out", "put", "say", "shut", "then", "to"]) (kn0 : Kn P w K mg base cs "is_name" 1 ["text"] sp0) (kn1 : Kn P w K mg base cs "in_bounds" 1 ["number"] sp1) (knx_BadBox : KnX K mg cs "BadBox") {f : Addr} {fd : FuncData} (F : Fun K "look_at_boxes" "look_at_boxes" s_look_at_boxesX f fd) (hm : mg "look_at_boxes" = some (.ref f)) (hb : Binds K fd ["chart"] []) {s : SpG} (hl : ∀ ds QD QX, s ds QD QX → ds.length = 1)
    (hd : ∀ ds QD QX, s ds QD QX → w_look_at_boxesX sp0 sp1 { nx := fun env => ∃ ds', backD [] env 0 ds = some ds' ∧ QD .non ds', rt := fun d env => ∃ ds', backD [] env 0 ds = some ds' ∧ QD d ds', ex := fun xc env => ∃ ds', backD [] env 0 ds = some ds' ∧ QX xc ds' } (env0 3 ds)) : KnG P w K mg base cs "look_at_boxes" 2 ["chart"] [] s :=
  ⟨f, fd, fn_G [] F sc_look_at_boxesX hl (fun _ _ _ _ _ _ hr tk => vs_look_at_boxesX hC hcf fr gc_DEEPEST gc_FIGURES gc_LETTERS gc_WORDS kn0 kn1 knx_BadBox hr tk) hd, hm, F.kp, hb⟩
abbrev s_right_termG : Stmt := top 25
theorem sc_right_termG : FnScope ["chart", "term"] ["chart", "term"] (defScope s_right_termG) := ⟨rfl, rfl, rfl, by decide +kernel, rfl, by decide +kernel, by decide +kernel⟩
theorem vs_right_termG {sp0 : SpD} (hC : CsOk K cs) (hcf : ∀ ci ∈ cs, ci.fields = fieldsOf ci.name) (fr : Free mg frees) (gc_DEEPEST : ∃ t, mg "DEEPEST" = some (.int 12 t)) (gc_FIGURES : ∃ t, mg "FIGURES" = some (.str "0123456789" t)) (gc_LETTERS : ∃ t, mg "LETTERS" = some (.str "abcdefghijklmnopqrstuvwxyz" t)) (gc_WORDS : ∃ a, mg "WORDS" = some (.ref a) ∧ TupS K a ["all", "and", "box", "call", "do", "far", "if", "in", "leaf", "near", "on", "one", "open", "out", "put", "say", "shut", "then", "to"]) (kn0 : Kn P w K mg base cs "in_bounds" 1 ["number"] sp0) {f : Addr} {cdv : Value} {A : Around} {outer : List PySem.Env} {sh : Shared} {H : Hp} {E : XK} (hr : Room 1 (A.deeper (envOfC "right_term" (defScope s_right_termG) sh.heap.objs.size f cdv))) :
    VSs (cxOf CX0 P w K mg base ["chart", "term"] "right_term" (defScope s_right_termG) f cdv A outer sh H E).nox cs [] (defBody s_right_termG) (w_right_termG sp0) :=
  (vss_one (vs_ret (vt_tk (vp_and (vp_of (vt_cmp op_le od_cmp (vp_of (vt_neg (vp_of vt_int))) (vp_ix (vp_v 1) (vp_of vt_int)) (nomark _))) (vp_and (vp_of (vt_cmp op_lt od_cmp (vp_ix (vp_v 1) (vp_of vt_int)) (vp_of (vt_callB call_len cd_len rfl (fr _ (by decide)) boot_more.1 (va_cons (vp_fld hC (vp_v 0)) va_nil))) (nomark _))) (vp_one (vp_of (vt_fn kn0 (hr.mono (by decide)) rfl (va_cons (vp_ix (vp_v 1) (vp_of vt_int)) va_nil)))))))))
theorem kn_right_termG {sp0 : SpD} (hC : CsOk K cs) (hcf : ∀ ci ∈ cs, ci.fields = fieldsOf ci.name) (fr : Free mg frees) (gc_DEEPEST : ∃ t, mg "DEEPEST" = some (.int 12 t)) (gc_FIGURES : ∃ t, mg "FIGURES" = some (.str "0123456789" t)) (gc_LETTERS : ∃ t, mg "LETTERS" = some (.str "abcdefghijklmnopqrstuvwxyz" t)) (gc_WORDS : ∃ a, mg "WORDS" = some (.ref a) ∧ TupS K a ["all", "and", "box", "call", "do", "far", "if", "in", "leaf", "near", "on", "one", "open", "out", "put", "say", "shut", "then", "to"]) (kn0 : Kn P w K mg base cs "in_bounds" 1 ["number"] sp0) {f : Addr} {fd : FuncData} (F : Fun K "right_term" "right_term" s_right_termG f fd) (hm : mg "right_term" = some (.ref f)) (hb : Binds K fd ["chart", "term"] []) {s : SpD} (hl : ∀ ds Q, s ds Q → ds.length = 2)
    (hd : ∀ ds Q, s ds Q → w_right_termG sp0 { nx := fun _ => Q .non, rt := fun d _ => Q d } (env0 2 ds)) : Kn P w K mg base cs "right_term" 2 ["chart", "term"] s :=
  ⟨f, fd, fn_pure F sc_right_termG hl (fun _ _ _ _ _ _ hr => vs_right_termG hC hcf fr gc_DEEPEST gc_FIGURES gc_LETTERS gc_WORDS kn0 hr) hd, hm, F.kp, hb⟩
abbrev s_right_deedG : Stmt := top 26
theorem sc_right_deedG : FnScope ["chart", "deed"] ["chart", "deed"] (defScope s_right_deedG) := ⟨rfl, rfl, rfl, by decide +kernel, rfl, by decide +kernel, by decide +kernel⟩
theorem vs_right_deedG {sp0 : SpD} {sp1 : SpD} (hC : CsOk K cs) (hcf : ∀ ci ∈ cs, ci.fields = fieldsOf ci.name) (fr : Free mg frees) (gc_DEEPEST : ∃ t, mg "DEEPEST" = some (.int 12 t)) (gc_FIGURES : ∃ t, mg "FIGURES" = some (.str "0123456789" t)) (gc_LETTERS : ∃ t, mg "LETTERS" = some (.str "abcdefghijklmnopqrstuvwxyz" t)) (gc_WORDS : ∃ a, mg "WORDS" = some (.ref a) ∧ TupS K a ["all", "and", "box", "call", "do", "far", "if", "in", "leaf", "near", "on", "one", "open", "out", "put", "say", "shut", "then", "to"]) (kn0 : Kn P w K mg base cs "right_term" 2 ["chart", "term"] sp0) (kn1 : Kn P w K mg base cs "is_name" 1 ["text"] sp1) {f : Addr} {cdv : Value} {A : Around} {outer : List PySem.Env} {sh : Shared} {H : Hp} {E : XK} (hr : Room 2 (A.deeper (envOfC "right_deed" (defScope s_right_deedG) sh.heap.objs.size f cdv))) :
    VSs (cxOf CX0 P w K mg base ["chart", "deed"] "right_deed" (defScope s_right_deedG) f cdv A outer sh H E).nox cs [] (defBody s_right_deedG) (w_right_deedG sp0 sp1) :=
  (vss_cons (vs_if (vb_cmp (op_eq2 hr.units) od_eq (vp_ix (vp_v 1) (vp_of vt_int)) (vp_of vt_str) (nomark _)) (vss_one (vs_ret (vt_tk (vp_and (vp_of (vt_cmp op_le od_cmp (vp_of vt_int) (vp_ix (vp_v 1) (vp_of vt_int)) (nomark _))) (vp_and (vp_of (vt_cmp op_lt od_cmp (vp_ix (vp_v 1) (vp_of vt_int)) (vp_of (vt_callB call_len cd_len rfl (fr _ (by decide)) boot_more.1 (va_cons (vp_fld hC (vp_v 0)) va_nil))) (nomark _))) (vp_one (vp_of (vt_fn kn0 (hr.mono (by decide)) rfl (va_cons (vp_v 0) (va_cons (vp_ix (vp_v 1) (vp_of vt_int)) va_nil)))))))))) vss_nil) (vss_cons (vs_if (vb_cmp (op_eq2 hr.units) od_eq (vp_ix (vp_v 1) (vp_of vt_int)) (vp_of vt_str) (nomark _)) (vss_one (vs_ret (vt_fn kn1 (hr.mono (by decide)) rfl (va_cons (vp_ix (vp_v 1) (vp_of vt_int)) va_nil)))) vss_nil) (vss_one (vs_ret (vt_tk (vp_and (vp_of (vt_cmp (op_eq2 hr.units) od_eq (vp_ix (vp_v 1) (vp_of vt_int)) (vp_of vt_str) (nomark _))) (vp_and (vp_of (vt_fn kn1 (hr.mono (by decide)) rfl (va_cons (vp_ix (vp_v 1) (vp_of vt_int)) va_nil))) (vp_one (vp_of (vt_fn kn0 (hr.mono (by decide)) rfl (va_cons (vp_v 0) (va_cons (vp_ix (vp_v 1) (vp_of vt_int)) va_nil))))))))))))
theorem kn_right_deedG {sp0 : SpD} {sp1 : SpD} (hC : CsOk K cs) (hcf : ∀ ci ∈ cs, ci.fields = fieldsOf ci.name) (fr : Free mg frees) (gc_DEEPEST : ∃ t, mg "DEEPEST" = some (.int 12 t)) (gc_FIGURES : ∃ t, mg "FIGURES" = some (.str "0123456789" t)) (gc_LETTERS : ∃ t, mg "LETTERS" = some (.str "abcdefghijklmnopqrstuvwxyz" t)) (gc_WORDS : ∃ a, mg "WORDS" = some (.ref a) ∧ TupS K a ["all", "and", "box", "call", "do", "far", "if", "in", "leaf", "near", "on", "one", "open", "out", "put", "say", "shut", "then", "to"]) (kn0 : Kn P w K mg base cs "right_term" 2 ["chart", "term"] sp0) (kn1 : Kn P w K mg base cs "is_name" 1 ["text"] sp1) {f : Addr} {fd : FuncData} (F : Fun K "right_deed" "right_deed" s_right_deedG f fd) (hm : mg "right_deed" = some (.ref f)) (hb : Binds K fd ["chart", "deed"] []) {s : SpD} (hl : ∀ ds Q, s ds Q → ds.length = 2)
    (hd : ∀ ds Q, s ds Q → w_right_deedG sp0 sp1 { nx := fun _ => Q .non, rt := fun d _ => Q d } (env0 2 ds)) : Kn P w K mg base cs "right_deed" 3 ["chart", "deed"] s :=
  ⟨f, fd, fn_pure F sc_right_deedG hl (fun _ _ _ _ _ _ hr => vs_right_deedG hC hcf fr gc_DEEPEST gc_FIGURES gc_LETTERS gc_WORDS kn0 kn1 hr) hd, hm, F.kp, hb⟩
abbrev s_look_at_deedsX : Stmt := top 28
theorem sc_look_at_deedsX : FnScope ["chart", "many", "rows", "way", "deeds", "deed"] ["chart"] (defScope s_look_at_deedsX) := ⟨rfl, rfl, rfl, by decide +kernel, rfl, by decide +kernel, by decide +kernel⟩
theorem vs_look_at_deedsX {sp0 : SpD} (hC : CsOk K cs) (hcf : ∀ ci ∈ cs, ci.fields = fieldsOf ci.name) (fr : Free mg frees) (gc_DEEPEST : ∃ t, mg "DEEPEST" = some (.int 12 t)) (gc_FIGURES : ∃ t, mg "FIGURES" = some (.str "0123456789" t)) (gc_LETTERS : ∃ t, mg "LETTERS" = some (.str "abcdefghijklmnopqrstuvwxyz" t)) (gc_WORDS : ∃ a, mg "WORDS" = some (.ref a) ∧ TupS K a ["all", "and", "box", "call", "do", "far", "if", "in", "leaf", "near", "on", "one", "open", "out", "put", "say", "shut", "then", "to"]) (kn0 : Kn P w K mg base cs "right_deed" 3 ["chart", "deed"] sp0) (knx_BadDeed : KnX K mg cs "BadDeed") {f : Addr} {cdv : Value} {A : Around} {outer : List PySem.Env} {sh : Shared} {H : Hp} {E : XK} (hr : Room 3 (A.deeper (envOfC "look_at_deeds" (defScope s_look_at_deedsX) sh.heap.objs.size f cdv)))
    (tk : L2.Takes (cxOf (L2.CX P w) P w K mg base ["chart", "many", "rows", "way", "deeds", "deed"] "look_at_deeds" (defScope s_look_at_deedsX) f cdv A outer sh H E) (fun cls d _ H => E cls d H)) : VSsX (cxOf (L2.CX P w) P w K mg base ["chart", "many", "rows", "way", "deeds", "deed"] "look_at_deeds" (defScope s_look_at_deedsX) f cdv A outer sh H E) cs (fun cls d _ H => E cls d H) [] (defBody s_look_at_deedsX) (w_look_at_deedsX sp0) :=
  (vssx_cons (vsx_of (vs_set 1 (vt_callB call_len cd_len rfl (fr _ (by decide)) boot_more.1 (va_cons (vp_fld hC (vp_v 0)) va_nil)) sc_look_at_deedsX.nd)) (vssx_cons (vsx_if (VW.vb (vw_or (vb_cmp (op_ne2 hr.units) od_ne (vp_of (vt_callB call_len cd_len rfl (fr _ (by decide)) boot_more.1 (va_cons (vp_fld hC (vp_v 0)) va_nil))) (vp_v 1) (nomark _)) (vw_or1 (vb_cmp (op_ne2 hr.units) od_ne (vp_of (vt_callB call_len cd_len rfl (fr _ (by decide)) boot_more.1 (va_cons (vp_fld hC (vp_v 0)) va_nil))) (vp_v 1) (nomark _))))) (vssx_one (vsx_raise rfl knx_BadDeed tk rfl)) vssx_nil) (vssx_cons (vsx_of (vs_set 2 (vt_op op_add5 od_addG (vp_of (vt_op op_add5 od_addG (vp_fld hC (vp_v 0)) (vp_fld hC (vp_v 0)))) (vp_of (vt_lc 3 rfl sc_look_at_deedsX.nd (vi_seq (vt_tk (vp_fld hC (vp_v 0)))) (blkOk_by (N := ["chart", "many", "rows", "way", "deeds", "deed"]) (sc := defScope s_look_at_deedsX) (by decide +kernel)) (fun _ _ _ _ _ => pg_name sc_look_at_deedsX.nd rfl (Or.inl rfl)) (fun _ _ _ _ _ => vts_nil) (fun _ _ _ _ _ => (vt_tk (vp_ix (vp_v 3) (vp_of vt_int))))))) sc_look_at_deedsX.nd)) (vssx_one (vsx_frz 2 (vsx_for 4 (passes_of rfl) rfl (vi_seq (vt_tk (vp_v 2))) sc_look_at_deedsX.nd (vssx_one (vsx_frz 4 (vsx_for 5 (passes_of rfl) rfl (vi_seq (vt_tk (vp_v 4))) sc_look_at_deedsX.nd (vssx_one (vsx_if (vb_not (vb_val (vp_of (vt_fn kn0 (hr.mono (by decide)) rfl (va_cons (vp_v 0) (va_cons (vp_v 5) va_nil)))))) (vssx_one (vsx_raise rfl knx_BadDeed tk rfl)) vssx_nil)))))))))))
theorem kn_look_at_deedsX {sp0 : SpD} (hC : CsOk K cs) (hcf : ∀ ci ∈ cs, ci.fields = fieldsOf ci.name) (fr : Free mg frees) (gc_DEEPEST : ∃ t, mg "DEEPEST" = some (.int 12 t)) (gc_FIGURES : ∃ t, mg "FIGURES" = some (.str "0123456789" t)) (gc_LETTERS : ∃ t, mg "LETTERS" = some (.str "abcdefghijklmnopqrstuvwxyz" t)) (gc_WORDS : ∃ a, mg "WORDS" = some (.ref a) ∧ TupS K a ["all", "and", "box", "call", "do", "far", "if", "in", "leaf", "near", "on", "one", "open", "out", "put", "say", "shut", "then", "to"]) (kn0 : Kn P w K mg base cs "right_deed" 3 ["chart", "deed"] sp0) (knx_BadDeed : KnX K mg cs "BadDeed") {f : Addr} {fd : FuncData} (F : Fun K "look_at_deeds" "look_at_deeds" s_look_at_deedsX f fd) (hm : mg "look_at_deeds" = some (.ref f)) (hb : Binds K fd ["chart"] []) {s : SpG} (hl : ∀ ds QD QX, s ds QD QX → ds.length = 1)
    (hd : ∀ ds QD QX, s ds QD QX → w_look_at_deedsX sp0 { nx := fun env => ∃ ds', backD [] env 0 ds = some ds' ∧ QD .non ds', rt := fun d env => ∃ ds', backD [] env 0 ds = some ds' ∧ QD d ds', ex := fun xc env => ∃ ds', backD [] env 0 ds = some ds' ∧ QX xc ds' } (env0 6 ds)) : KnG P w K mg base cs "look_at_deeds" 4 ["chart"] [] s :=
  ⟨f, fd, fn_G [] F sc_look_at_deedsX hl (fun _ _ _ _ _ _ hr tk => vs_look_at_deedsX hC hcf fr gc_DEEPEST gc_FIGURES gc_LETTERS gc_WORDS kn0 knx_BadDeed hr tk) hd, hm, F.kp, hb⟩
abbrev s_right_askG : Stmt := top 27
theorem sc_right_askG : FnScope ["chart", "ask"] ["chart", "ask"] (defScope s_right_askG) := ⟨rfl, rfl, rfl, by decide +kernel, rfl, by decide +kernel, by decide +kernel⟩
theorem vs_right_askG {sp0 : SpD} (hC : CsOk K cs) (hcf : ∀ ci ∈ cs, ci.fields = fieldsOf ci.name) (fr : Free mg frees) (gc_DEEPEST : ∃ t, mg "DEEPEST" = some (.int 12 t)) (gc_FIGURES : ∃ t, mg "FIGURES" = some (.str "0123456789" t)) (gc_LETTERS : ∃ t, mg "LETTERS" = some (.str "abcdefghijklmnopqrstuvwxyz" t)) (gc_WORDS : ∃ a, mg "WORDS" = some (.ref a) ∧ TupS K a ["all", "and", "box", "call", "do", "far", "if", "in", "leaf", "near", "on", "one", "open", "out", "put", "say", "shut", "then", "to"]) (kn0 : Kn P w K mg base cs "right_term" 2 ["chart", "term"] sp0) {f : Addr} {cdv : Value} {A : Around} {outer : List PySem.Env} {sh : Shared} {H : Hp} {E : XK} (hr : Room 2 (A.deeper (envOfC "right_ask" (defScope s_right_askG) sh.heap.objs.size f cdv))) :
    VSs (cxOf CX0 P w K mg base ["chart", "ask"] "right_ask" (defScope s_right_askG) f cdv A outer sh H E).nox cs [] (defBody s_right_askG) (w_right_askG sp0) :=
  (vss_cons (vs_if (VW.vb (vw_or (vb_cmp (op_eq2 hr.units) od_eq (vp_ix (vp_v 1) (vp_of vt_int)) (vp_of vt_str) (nomark _)) (vw_or1 (vb_cmp (op_eq2 hr.units) od_eq (vp_ix (vp_v 1) (vp_of vt_int)) (vp_of vt_str) (nomark _))))) (vss_one (vs_ret (vt_tk (vp_and (vp_of (vt_cmp op_le od_cmp (vp_of vt_int) (vp_ix (vp_v 1) (vp_of vt_int)) (nomark _))) (vp_one (vp_of (vt_cmp op_lt od_cmp (vp_ix (vp_v 1) (vp_of vt_int)) (vp_of (vt_callB call_len cd_len rfl (fr _ (by decide)) boot_more.1 (va_cons (vp_fld hC (vp_v 0)) va_nil))) (nomark _)))))))) vss_nil) (vss_one (vs_ret (vt_tk (vp_and (vp_of (vt_cmp op_in2 od_in (vp_ix (vp_v 1) (vp_of vt_int)) (vp_of (vt_tup (vm_cons vt_str (vm_cons vt_str (vm_cons vt_str (vm_cons vt_str vm_nil)))))) (by rfl))) (vp_and (vp_of (vt_fn kn0 (hr.mono (by decide)) rfl (va_cons (vp_v 0) (va_cons (vp_ix (vp_v 1) (vp_of vt_int)) va_nil)))) (vp_one (vp_of (vt_fn kn0 (hr.mono (by decide)) rfl (va_cons (vp_v 0) (va_cons (vp_ix (vp_v 1) (vp_of vt_int)) va_nil)))))))))))
theorem kn_right_askG {sp0 : SpD} (hC : CsOk K cs) (hcf : ∀ ci ∈ cs, ci.fields = fieldsOf ci.name) (fr : Free mg frees) (gc_DEEPEST : ∃ t, mg "DEEPEST" = some (.int 12 t)) (gc_FIGURES : ∃ t, mg "FIGURES" = some (.str "0123456789" t)) (gc_LETTERS : ∃ t, mg "LETTERS" = some (.str "abcdefghijklmnopqrstuvwxyz" t)) (gc_WORDS : ∃ a, mg "WORDS" = some (.ref a) ∧ TupS K a ["all", "and", "box", "call", "do", "far", "if", "in", "leaf", "near", "on", "one", "open", "out", "put", "say", "shut", "then", "to"]) (kn0 : Kn P w K mg base cs "right_term" 2 ["chart", "term"] sp0) {f : Addr} {fd : FuncData} (F : Fun K "right_ask" "right_ask" s_right_askG f fd) (hm : mg "right_ask" = some (.ref f)) (hb : Binds K fd ["chart", "ask"] []) {s : SpD} (hl : ∀ ds Q, s ds Q → ds.length = 2)
    (hd : ∀ ds Q, s ds Q → w_right_askG sp0 { nx := fun _ => Q .non, rt := fun d _ => Q d } (env0 2 ds)) : Kn P w K mg base cs "right_ask" 3 ["chart", "ask"] s :=
  ⟨f, fd, fn_pure F sc_right_askG hl (fun _ _ _ _ _ _ hr => vs_right_askG hC hcf fr gc_DEEPEST gc_FIGURES gc_LETTERS gc_WORDS kn0 hr) hd, hm, F.kp, hb⟩
abbrev s_look_at_waysX : Stmt := top 29
theorem sc_look_at_waysX : FnScope ["chart", "many", "last", "way", "ask"] ["chart"] (defScope s_look_at_waysX) := ⟨rfl, rfl, rfl, by decide +kernel, rfl, by decide +kernel, by decide +kernel⟩
theorem vs_look_at_waysX {sp0 : SpD} {sp1 : SpD} (hC : CsOk K cs) (hcf : ∀ ci ∈ cs, ci.fields = fieldsOf ci.name) (fr : Free mg frees) (gc_DEEPEST : ∃ t, mg "DEEPEST" = some (.int 12 t)) (gc_FIGURES : ∃ t, mg "FIGURES" = some (.str "0123456789" t)) (gc_LETTERS : ∃ t, mg "LETTERS" = some (.str "abcdefghijklmnopqrstuvwxyz" t)) (gc_WORDS : ∃ a, mg "WORDS" = some (.ref a) ∧ TupS K a ["all", "and", "box", "call", "do", "far", "if", "in", "leaf", "near", "on", "one", "open", "out", "put", "say", "shut", "then", "to"]) (kn0 : Kn P w K mg base cs "is_name" 1 ["text"] sp0) (kn1 : Kn P w K mg base cs "right_ask" 3 ["chart", "ask"] sp1) (knx_BadWay : KnX K mg cs "BadWay") {f : Addr} {cdv : Value} {A : Around} {outer : List PySem.Env} {sh : Shared} {H : Hp} {E : XK} (hr : Room 3 (A.deeper (envOfC "look_at_ways" (defScope s_look_at_waysX) sh.heap.objs.size f cdv)))
    (tk : L2.Takes (cxOf (L2.CX P w) P w K mg base ["chart", "many", "last", "way", "ask"] "look_at_ways" (defScope s_look_at_waysX) f cdv A outer sh H E) (fun cls d _ H => E cls d H)) : VSsX (cxOf (L2.CX P w) P w K mg base ["chart", "many", "last", "way", "ask"] "look_at_ways" (defScope s_look_at_waysX) f cdv A outer sh H E) cs (fun cls d _ H => E cls d H) [] (defBody s_look_at_waysX) (w_look_at_waysX sp0 sp1) :=
  (vssx_cons (vsx_of (vs_set 1 (vt_callB call_len cd_len rfl (fr _ (by decide)) boot_more.1 (va_cons (vp_fld hC (vp_v 0)) va_nil)) sc_look_at_waysX.nd)) (vssx_cons (vsx_of (vs_set 2 vt_int sc_look_at_waysX.nd)) (vssx_one (vsx_for 3 (passes_of rfl) rfl (vi_seq (vt_tk (vp_fld hC (vp_v 0)))) sc_look_at_waysX.nd (vssx_cons (vsx_if (VW.vb (vw_or (vb_cmp op_lt od_cmp (vp_ix (vp_v 3) (vp_of vt_int)) (vp_v 2) (nomark _)) (vw_or (vb_cmp op_ge od_cmp (vp_ix (vp_v 3) (vp_of vt_int)) (vp_v 1) (nomark _)) (vw_or (vb_cmp op_lt od_cmp (vp_ix (vp_v 3) (vp_of vt_int)) (vp_of (vt_neg (vp_of vt_int))) (nomark _)) (vw_or1 (vb_cmp op_ge od_cmp (vp_ix (vp_v 3) (vp_of vt_int)) (vp_v 1) (nomark _))))))) (vssx_one (vsx_raise rfl knx_BadWay tk rfl)) vssx_nil) (vssx_cons (vsx_of (vs_set 2 (vt_tk (vp_ix (vp_v 3) (vp_of vt_int))) sc_look_at_waysX.nd)) (vssx_cons (vsx_if (VW.vb (vw_or (vb_not (vb_val (vp_of (vt_fn kn0 (hr.mono (by decide)) rfl (va_cons (vp_ix (vp_v 3) (vp_of vt_int)) va_nil))))) (vw_or1 (vb_cmp op_nin2 od_in (vp_ix (vp_v 3) (vp_of vt_int)) (vp_of (vt_tup (vm_cons vt_str (vm_cons vt_str (vm_cons vt_str vm_nil))))) (by rfl))))) (vssx_one (vsx_raise rfl knx_BadWay tk rfl)) vssx_nil) (vssx_cons (vsx_if (VW.vb (vw_and (vb_cmp (op_eq2 hr.units) od_eq (vp_ix (vp_v 3) (vp_of vt_int)) (vp_of (vt_neg (vp_of vt_int))) (nomark _)) (vw_and1 (vb_cmp (op_ne2 hr.units) od_ne (vp_ix (vp_v 3) (vp_of vt_int)) (vp_of vt_str) (nomark _))))) (vssx_one (vsx_raise rfl knx_BadWay tk rfl)) vssx_nil) (vssx_one (vsx_for 4 (passes_of rfl) rfl (vi_seq (vt_tk (vp_ix (vp_v 3) (vp_of vt_int)))) sc_look_at_waysX.nd (vssx_one (vsx_if (vb_not (vb_val (vp_of (vt_fn kn1 (hr.mono (by decide)) rfl (va_cons (vp_v 0) (va_cons (vp_v 4) va_nil)))))) (vssx_one (vsx_raise rfl knx_BadWay tk rfl)) vssx_nil))))))))))))
theorem kn_look_at_waysX {sp0 : SpD} {sp1 : SpD} (hC : CsOk K cs) (hcf : ∀ ci ∈ cs, ci.fields = fieldsOf ci.name) (fr : Free mg frees) (gc_DEEPEST : ∃ t, mg "DEEPEST" = some (.int 12 t)) (gc_FIGURES : ∃ t, mg "FIGURES" = some (.str "0123456789" t)) (gc_LETTERS : ∃ t, mg "LETTERS" = some (.str "abcdefghijklmnopqrstuvwxyz" t)) (gc_WORDS : ∃ a, mg "WORDS" = some (.ref a) ∧ TupS K a ["all", "and", "box", "call", "do", "far", "if", "in", "leaf", "near", "on", "one", "open", "out", "put", "say", "shut", "then", "to"]) (kn0 : Kn P w K mg base cs "is_name" 1 ["text"] sp0) (kn1 : Kn P w K mg base cs "right_ask" 3 ["chart", "ask"] sp1) (knx_BadWay : KnX K mg cs "BadWay") {f : Addr} {fd : FuncData} (F : Fun K "look_at_ways" "look_at_ways" s_look_at_waysX f fd) (hm : mg "look_at_ways" = some (.ref f)) (hb : Binds K fd ["chart"] []) {s : SpG} (hl : ∀ ds QD QX, s ds QD QX → ds.length = 1)
    (hd : ∀ ds QD QX, s ds QD QX → w_look_at_waysX sp0 sp1 { nx := fun env => ∃ ds', backD [] env 0 ds = some ds' ∧ QD .non ds', rt := fun d env => ∃ ds', backD [] env 0 ds = some ds' ∧ QD d ds', ex := fun xc env => ∃ ds', backD [] env 0 ds = some ds' ∧ QX xc ds' } (env0 5 ds)) : KnG P w K mg base cs "look_at_ways" 4 ["chart"] [] s :=
  ⟨f, fd, fn_G [] F sc_look_at_waysX hl (fun _ _ _ _ _ _ hr tk => vs_look_at_waysX hC hcf fr gc_DEEPEST gc_FIGURES gc_LETTERS gc_WORDS kn0 kn1 knx_BadWay hr tk) hd, hm, F.kp, hb⟩
abbrev s_lookedX : Stmt := top 30
theorem sc_lookedX : FnScope ["chart"] ["chart"] (defScope s_lookedX) := ⟨rfl, rfl, rfl, by decide +kernel, rfl, by decide +kernel, by decide +kernel⟩
theorem vs_lookedX {sp0 : SpG} {sp1 : SpG} {sp2 : SpG} {sp3 : SpG} {sp4 : SpG} {sp5 : SpG} (hC : CsOk K cs) (hcf : ∀ ci ∈ cs, ci.fields = fieldsOf ci.name) (fr : Free mg frees) (gc_DEEPEST : ∃ t, mg "DEEPEST" = some (.int 12 t)) (gc_FIGURES : ∃ t, mg "FIGURES" = some (.str "0123456789" t)) (gc_LETTERS : ∃ t, mg "LETTERS" = some (.str "abcdefghijklmnopqrstuvwxyz" t)) (gc_WORDS : ∃ a, mg "WORDS" = some (.ref a) ∧ TupS K a ["all", "and", "box", "call", "do", "far", "if", "in", "leaf", "near", "on", "one", "open", "out", "put", "say", "shut", "then", "to"]) (kn0 : KnG P w K mg base cs "look_at_numbers" 3 ["chart"] [] sp0) (kn1 : KnG P w K mg base cs "look_at_kinds" 2 ["tree"] [] sp1) (kn2 : KnG P w K mg base cs "look_at_names" 2 ["chart"] [] sp2) (kn3 : KnG P w K mg base cs "look_at_boxes" 2 ["chart"] [] sp3) (kn4 : KnG P w K mg base cs "look_at_deeds" 4 ["chart"] [] sp4) (kn5 : KnG P w K mg base cs "look_at_ways" 4 ["chart"] [] sp5) {f : Addr} {cdv : Value} {A : Around} {outer : List PySem.Env} {sh : Shared} {H : Hp} {E : XK} (hr : Room 4 (A.deeper (envOfC "looked" (defScope s_lookedX) sh.heap.objs.size f cdv)))
    (tk : L2.Takes (cxOf (L2.CX P w) P w K mg base ["chart"] "looked" (defScope s_lookedX) f cdv A outer sh H E) (fun cls d _ H => E cls d H)) : VSsX (cxOf (L2.CX P w) P w K mg base ["chart"] "looked" (defScope s_lookedX) f cdv A outer sh H E) cs (fun cls d _ H => E cls d H) [] (defBody s_lookedX) (w_lookedX sp0 sp1 sp2 sp3 sp4 sp5) :=
  (vssx_cons (vsx_expr (ve_call kn0 (hr.mono (by decide)) rfl tk (vas_tmp (ve_vt (vt_tk (vp_v 0))) vas_nil))) (vssx_cons (vsx_expr (ve_call kn1 (hr.mono (by decide)) rfl tk (vas_tmp (ve_vt (vt_tk (vp_fld hC (vp_v 0)))) vas_nil))) (vssx_cons (vsx_expr (ve_call kn2 (hr.mono (by decide)) rfl tk (vas_tmp (ve_vt (vt_tk (vp_v 0))) vas_nil))) (vssx_cons (vsx_expr (ve_call kn3 (hr.mono (by decide)) rfl tk (vas_tmp (ve_vt (vt_tk (vp_v 0))) vas_nil))) (vssx_cons (vsx_expr (ve_call kn4 (hr.mono (by decide)) rfl tk (vas_tmp (ve_vt (vt_tk (vp_v 0))) vas_nil))) (vssx_one (vsx_expr (ve_call kn5 (hr.mono (by decide)) rfl tk (vas_tmp (ve_vt (vt_tk (vp_v 0))) vas_nil)))))))))
theorem kn_lookedX {sp0 : SpG} {sp1 : SpG} {sp2 : SpG} {sp3 : SpG} {sp4 : SpG} {sp5 : SpG} (hC : CsOk K cs) (hcf : ∀ ci ∈ cs, ci.fields = fieldsOf ci.name) (fr : Free mg frees) (gc_DEEPEST : ∃ t, mg "DEEPEST" = some (.int 12 t)) (gc_FIGURES : ∃ t, mg "FIGURES" = some (.str "0123456789" t)) (gc_LETTERS : ∃ t, mg "LETTERS" = some (.str "abcdefghijklmnopqrstuvwxyz" t)) (gc_WORDS : ∃ a, mg "WORDS" = some (.ref a) ∧ TupS K a ["all", "and", "box", "call", "do", "far", "if", "in", "leaf", "near", "on", "one", "open", "out", "put", "say", "shut", "then", "to"]) (kn0 : KnG P w K mg base cs "look_at_numbers" 3 ["chart"] [] sp0) (kn1 : KnG P w K mg base cs "look_at_kinds" 2 ["tree"] [] sp1) (kn2 : KnG P w K mg base cs "look_at_names" 2 ["chart"] [] sp2) (kn3 : KnG P w K mg base cs "look_at_boxes" 2 ["chart"] [] sp3) (kn4 : KnG P w K mg base cs "look_at_deeds" 4 ["chart"] [] sp4) (kn5 : KnG P w K mg base cs "look_at_ways" 4 ["chart"] [] sp5) {f : Addr} {fd : FuncData} (F : Fun K "looked" "looked" s_lookedX f fd) (hm : mg "looked" = some (.ref f)) (hb : Binds K fd ["chart"] []) {s : SpG} (hl : ∀ ds QD QX, s ds QD QX → ds.length = 1)
    (hd : ∀ ds QD QX, s ds QD QX → w_lookedX sp0 sp1 sp2 sp3 sp4 sp5 { nx := fun env => ∃ ds', backD [] env 0 ds = some ds' ∧ QD .non ds', rt := fun d env => ∃ ds', backD [] env 0 ds = some ds' ∧ QD d ds', ex := fun xc env => ∃ ds', backD [] env 0 ds = some ds' ∧ QX xc ds' } (env0 1 ds)) : KnG P w K mg base cs "looked" 5 ["chart"] [] s :=
  ⟨f, fd, fn_G [] F sc_lookedX hl (fun _ _ _ _ _ _ hr tk => vs_lookedX hC hcf fr gc_DEEPEST gc_FIGURES gc_LETTERS gc_WORDS kn0 kn1 kn2 kn3 kn4 kn5 hr tk) hd, hm, F.kp, hb⟩
abbrev s_L_refusal : Stmt := top 56
theorem sc_L_refusal : FnScope ["chart", "kind", "right"] ["chart"] (defScope s_L_refusal) := ⟨rfl, rfl, rfl, by decide +kernel, rfl, by decide +kernel, by decide +kernel⟩
theorem vs_L_refusal {sp0 : SpG} (hC : CsOk K cs) (hcf : ∀ ci ∈ cs, ci.fields = fieldsOf ci.name) (fr : Free mg frees) (gc_DEEPEST : ∃ t, mg "DEEPEST" = some (.int 12 t)) (gc_FIGURES : ∃ t, mg "FIGURES" = some (.str "0123456789" t)) (gc_LETTERS : ∃ t, mg "LETTERS" = some (.str "abcdefghijklmnopqrstuvwxyz" t)) (gc_WORDS : ∃ a, mg "WORDS" = some (.ref a) ∧ TupS K a ["all", "and", "box", "call", "do", "far", "if", "in", "leaf", "near", "on", "one", "open", "out", "put", "say", "shut", "then", "to"]) (kn0 : KnG P w K mg base cs "looked" 5 ["chart"] [] sp0) (kntc_BadTree : KnTc K mg cs "BadTree" (fun n => n == ("BadTree" : Str))) (kntc_BadName : KnTc K mg cs "BadName" (fun n => n == ("BadName" : Str))) (kntc_BadBox : KnTc K mg cs "BadBox" (fun n => n == ("BadBox" : Str))) (kntc_BadDeed : KnTc K mg cs "BadDeed" (fun n => n == ("BadDeed" : Str))) (kntc_BadWay : KnTc K mg cs "BadWay" (fun n => n == ("BadWay" : Str))) {f : Addr} {cdv : Value} {A : Around} {outer : List PySem.Env} {sh : Shared} {H : Hp} {E : XK} (hr : Room 5 (A.deeper (envOfC "_law_refusal" (defScope s_L_refusal) sh.heap.objs.size f cdv))) :
    VSs (cxOf CX0 P w K mg base ["chart", "kind", "right"] "_law_refusal" (defScope s_L_refusal) f cdv A outer sh H E).nox cs [] (defBody s_L_refusal) (w_L_refusal sp0) :=
  (vss_cons (vs_set 1 (vt_neg (vp_of vt_int)) sc_L_refusal.nd) (vss_cons (vs_set 2 vt_bl sc_L_refusal.nd) (vss_cons (vs_tryM rfl rfl (fun W pn xe tk => (vssx_one (vsx_set 2 (ve_cmp op_isN1 od_isn (ve_call kn0 (hr.mono (by decide)) rfl tk (vas_tmp (ve_vt (vt_tk (vp_v 0))) vas_nil)) (ve_vt vt_non) (nomark _)) sc_L_refusal.nd))) (.cons kntc_BadTree rfl (fun a oe pn => (vss_one (vs_set 1 vt_int sc_L_refusal.nd))) (.cons kntc_BadName rfl (fun a oe pn => (vss_one (vs_set 1 vt_int sc_L_refusal.nd))) (.cons kntc_BadBox rfl (fun a oe pn => (vss_one (vs_set 1 vt_int sc_L_refusal.nd))) (.cons kntc_BadDeed rfl (fun a oe pn => (vss_one (vs_set 1 vt_int sc_L_refusal.nd))) (.cons kntc_BadWay rfl (fun a oe pn => (vss_one (vs_set 1 vt_int sc_L_refusal.nd))) .nil)))))) (vss_cons (vs_if (VW.vb (vw_and (vb_cmp (op_eq2 hr.units) od_eq (vp_v 1) (vp_of (vt_neg (vp_of vt_int))) (nomark _)) (vw_and1 (vb_not (vb_val (vp_v 2)))))) (vss_one (vs_ret vt_int)) vss_nil) (vss_one (vs_retv 1))))))
theorem kn_L_refusal {sp0 : SpG} (hC : CsOk K cs) (hcf : ∀ ci ∈ cs, ci.fields = fieldsOf ci.name) (fr : Free mg frees) (gc_DEEPEST : ∃ t, mg "DEEPEST" = some (.int 12 t)) (gc_FIGURES : ∃ t, mg "FIGURES" = some (.str "0123456789" t)) (gc_LETTERS : ∃ t, mg "LETTERS" = some (.str "abcdefghijklmnopqrstuvwxyz" t)) (gc_WORDS : ∃ a, mg "WORDS" = some (.ref a) ∧ TupS K a ["all", "and", "box", "call", "do", "far", "if", "in", "leaf", "near", "on", "one", "open", "out", "put", "say", "shut", "then", "to"]) (kn0 : KnG P w K mg base cs "looked" 5 ["chart"] [] sp0) (kntc_BadTree : KnTc K mg cs "BadTree" (fun n => n == ("BadTree" : Str))) (kntc_BadName : KnTc K mg cs "BadName" (fun n => n == ("BadName" : Str))) (kntc_BadBox : KnTc K mg cs "BadBox" (fun n => n == ("BadBox" : Str))) (kntc_BadDeed : KnTc K mg cs "BadDeed" (fun n => n == ("BadDeed" : Str))) (kntc_BadWay : KnTc K mg cs "BadWay" (fun n => n == ("BadWay" : Str))) {f : Addr} {fd : FuncData} (F : Fun K "_law_refusal" "_law_refusal" s_L_refusal f fd) (hm : mg "_law_refusal" = some (.ref f)) (hb : Binds K fd ["chart"] []) {s : SpD} (hl : ∀ ds Q, s ds Q → ds.length = 1)
    (hd : ∀ ds Q, s ds Q → w_L_refusal sp0 { nx := fun _ => Q .non, rt := fun d _ => Q d } (env0 3 ds)) : Kn P w K mg base cs "_law_refusal" 6 ["chart"] s :=
  ⟨f, fd, fn_pure F sc_L_refusal hl (fun _ _ _ _ _ _ hr => vs_L_refusal hC hcf fr gc_DEEPEST gc_FIGURES gc_LETTERS gc_WORDS kn0 kntc_BadTree kntc_BadName kntc_BadBox kntc_BadDeed kntc_BadWay hr) hd, hm, F.kp, hb⟩
abbrev s_L_bases_2 : Stmt := top 57
theorem sc_L_bases_2 : FnScope ["chart", "marks", "e"] ["chart"] (defScope s_L_bases_2) := ⟨rfl, rfl, rfl, by decide +kernel, rfl, by decide +kernel, by decide +kernel⟩
theorem vs_L_bases_2 {sp0 : SpG} (hC : CsOk K cs) (hcf : ∀ ci ∈ cs, ci.fields = fieldsOf ci.name) (fr : Free mg frees) (gc_DEEPEST : ∃ t, mg "DEEPEST" = some (.int 12 t)) (gc_FIGURES : ∃ t, mg "FIGURES" = some (.str "0123456789" t)) (gc_LETTERS : ∃ t, mg "LETTERS" = some (.str "abcdefghijklmnopqrstuvwxyz" t)) (gc_WORDS : ∃ a, mg "WORDS" = some (.ref a) ∧ TupS K a ["all", "and", "box", "call", "do", "far", "if", "in", "leaf", "near", "on", "one", "open", "out", "put", "say", "shut", "then", "to"]) (kn0 : KnG P w K mg base cs "looked" 5 ["chart"] [] sp0) {xC : Addr} (kem : KnEm K cs (.ref xC)) (knem : mg "MoodError" = some (.ref xC)) (xek_0 : ∀ n D, (n, D) ∈ cs.xc → PySem.W.kitOne K (.ref D) (.type "ValueError") = some ((fun n => true) n)) {xe_1 : Addr} (xem_1 : mg "BadTree" = some (.ref xe_1)) (xek_1 : ∀ n D, (n, D) ∈ cs.xc → PySem.W.kitOne K (.ref D) (.ref xe_1) = some ((fun n => n == ("BadTree" : Str)) n)) {xe_2 : Addr} (xem_2 : mg "BadName" = some (.ref xe_2)) (xek_2 : ∀ n D, (n, D) ∈ cs.xc → PySem.W.kitOne K (.ref D) (.ref xe_2) = some ((fun n => n == ("BadName" : Str)) n)) {xe_3 : Addr} (xem_3 : mg "BadBox" = some (.ref xe_3)) (xek_3 : ∀ n D, (n, D) ∈ cs.xc → PySem.W.kitOne K (.ref D) (.ref xe_3) = some ((fun n => n == ("BadBox" : Str)) n)) {xe_4 : Addr} (xem_4 : mg "BadDeed" = some (.ref xe_4)) (xek_4 : ∀ n D, (n, D) ∈ cs.xc → PySem.W.kitOne K (.ref D) (.ref xe_4) = some ((fun n => n == ("BadDeed" : Str)) n)) {xe_5 : Addr} (xem_5 : mg "BadWay" = some (.ref xe_5)) (xek_5 : ∀ n D, (n, D) ∈ cs.xc → PySem.W.kitOne K (.ref D) (.ref xe_5) = some ((fun n => n == ("BadWay" : Str)) n)) {f : Addr} {cdv : Value} {A : Around} {outer : List PySem.Env} {sh : Shared} {H : Hp} {E : XK} (hr : Room 5 (A.deeper (envOfC "_law_bases" (defScope s_L_bases_2) sh.heap.objs.size f cdv))) :
    VSs (cxOf CX0 P w K mg base ["chart", "marks", "e"] "_law_bases" (defScope s_L_bases_2) f cdv A outer sh H E).nox cs [] (defBody s_L_bases_2) (w_L_bases_2 sp0) :=
  (vss_cons (vs_set 1 (vt_lst vm_nil) sc_L_bases_2.nd) (vss_cons (vs_tryAsM (i := 2) (j := 1) (bs := (fun n => [true, n == ("BadTree" : Str), n == ("BadName" : Str), n == ("BadBox" : Str), n == ("BadDeed" : Str), n == ("BadWay" : Str)])) rfl rfl sc_L_bases_2.nd rfl rfl ⟨rfl, by decide, .inl knem⟩ kem (fun W pn xe tk => (vssx_one (vsx_expr (ve_call kn0 (hr.mono (by decide)) rfl tk (vas_tmp (ve_vt (vt_tk (vp_v 0))) vas_nil))))) (by decide) (by decide) (fun m D mem a oe pn hz hf => (pa_isE (pe_isE (kem.ex m D mem) hz hf rfl (fr _ (by decide)) (pv 2) (pe_bltn (v := .ty "ValueError") rfl (fr _ (by decide)) rfl rfl) (fun _ r => r) (xek_0 m D mem)) (pa_isE (pe_isE (kem.ex m D mem) hz hf rfl (fr _ (by decide)) (pv 2) (pe_glob (v := .ref xe_1) rfl xem_1 rfl) (fun _ r => r) (xek_1 m D mem)) (pa_isE (pe_isE (kem.ex m D mem) hz hf rfl (fr _ (by decide)) (pv 2) (pe_glob (v := .ref xe_2) rfl xem_2 rfl) (fun _ r => r) (xek_2 m D mem)) (pa_isE (pe_isE (kem.ex m D mem) hz hf rfl (fr _ (by decide)) (pv 2) (pe_glob (v := .ref xe_3) rfl xem_3 rfl) (fun _ r => r) (xek_3 m D mem)) (pa_isE (pe_isE (kem.ex m D mem) hz hf rfl (fr _ (by decide)) (pv 2) (pe_glob (v := .ref xe_4) rfl xem_4 rfl) (fun _ r => r) (xek_4 m D mem)) (pa_isE (pe_isE (kem.ex m D mem) hz hf rfl (fr _ (by decide)) (pv 2) (pe_glob (v := .ref xe_5) rfl xem_5 rfl) (fun _ r => r) (xek_5 m D mem)) pa_isE0))))))) (fun _ => by rw [sizeLine_eq]; exact (by decide : (6 : Nat) ≤ 16777216))) (vss_one (vs_retv 1))))
theorem kn_L_bases_2 {sp0 : SpG} (hC : CsOk K cs) (hcf : ∀ ci ∈ cs, ci.fields = fieldsOf ci.name) (fr : Free mg frees) (gc_DEEPEST : ∃ t, mg "DEEPEST" = some (.int 12 t)) (gc_FIGURES : ∃ t, mg "FIGURES" = some (.str "0123456789" t)) (gc_LETTERS : ∃ t, mg "LETTERS" = some (.str "abcdefghijklmnopqrstuvwxyz" t)) (gc_WORDS : ∃ a, mg "WORDS" = some (.ref a) ∧ TupS K a ["all", "and", "box", "call", "do", "far", "if", "in", "leaf", "near", "on", "one", "open", "out", "put", "say", "shut", "then", "to"]) (kn0 : KnG P w K mg base cs "looked" 5 ["chart"] [] sp0) {xC : Addr} (kem : KnEm K cs (.ref xC)) (knem : mg "MoodError" = some (.ref xC)) (xek_0 : ∀ n D, (n, D) ∈ cs.xc → PySem.W.kitOne K (.ref D) (.type "ValueError") = some ((fun n => true) n)) {xe_1 : Addr} (xem_1 : mg "BadTree" = some (.ref xe_1)) (xek_1 : ∀ n D, (n, D) ∈ cs.xc → PySem.W.kitOne K (.ref D) (.ref xe_1) = some ((fun n => n == ("BadTree" : Str)) n)) {xe_2 : Addr} (xem_2 : mg "BadName" = some (.ref xe_2)) (xek_2 : ∀ n D, (n, D) ∈ cs.xc → PySem.W.kitOne K (.ref D) (.ref xe_2) = some ((fun n => n == ("BadName" : Str)) n)) {xe_3 : Addr} (xem_3 : mg "BadBox" = some (.ref xe_3)) (xek_3 : ∀ n D, (n, D) ∈ cs.xc → PySem.W.kitOne K (.ref D) (.ref xe_3) = some ((fun n => n == ("BadBox" : Str)) n)) {xe_4 : Addr} (xem_4 : mg "BadDeed" = some (.ref xe_4)) (xek_4 : ∀ n D, (n, D) ∈ cs.xc → PySem.W.kitOne K (.ref D) (.ref xe_4) = some ((fun n => n == ("BadDeed" : Str)) n)) {xe_5 : Addr} (xem_5 : mg "BadWay" = some (.ref xe_5)) (xek_5 : ∀ n D, (n, D) ∈ cs.xc → PySem.W.kitOne K (.ref D) (.ref xe_5) = some ((fun n => n == ("BadWay" : Str)) n)) {f : Addr} {fd : FuncData} (F : Fun K "_law_bases" "_law_bases" s_L_bases_2 f fd) (hm : mg "_law_bases" = some (.ref f)) (hb : Binds K fd ["chart"] []) {s : SpD} (hl : ∀ ds Q, s ds Q → ds.length = 1)
    (hd : ∀ ds Q, s ds Q → w_L_bases_2 sp0 { nx := fun _ => Q .non, rt := fun d _ => Q d } (env0 3 ds)) : Kn P w K mg base cs "_law_bases" 6 ["chart"] s :=
  ⟨f, fd, fn_pure F sc_L_bases_2 hl (fun _ _ _ _ _ _ hr => vs_L_bases_2 hC hcf fr gc_DEEPEST gc_FIGURES gc_LETTERS gc_WORDS kn0 kem knem xek_0 xem_1 xek_1 xem_2 xek_2 xem_3 xek_3 xem_4 xek_4 xem_5 xek_5 hr) hd, hm, F.kp, hb⟩
abbrev s_law_57 : Stmt := top 58
theorem sc_law_57 : FnScope ["script", "cell", "parts", "bits", "chosen", "k", "which", "chart"] ["script"] (defScope s_law_57) := ⟨rfl, rfl, rfl, by decide +kernel, rfl, by decide +kernel, by decide +kernel⟩
theorem vs_law_57 {sp0 : SpD} {sp1 : SpD} {sp2 : SpM} {sp3 : SpD} {sp4 : SpD} {sp5 : SpD} (hC : CsOk K cs) (hcf : ∀ ci ∈ cs, ci.fields = fieldsOf ci.name) (fr : Free mg frees) (gc_DEEPEST : ∃ t, mg "DEEPEST" = some (.int 12 t)) (gc_FIGURES : ∃ t, mg "FIGURES" = some (.str "0123456789" t)) (gc_LETTERS : ∃ t, mg "LETTERS" = some (.str "abcdefghijklmnopqrstuvwxyz" t)) (gc_WORDS : ∃ a, mg "WORDS" = some (.ref a) ∧ TupS K a ["all", "and", "box", "call", "do", "far", "if", "in", "leaf", "near", "on", "one", "open", "out", "put", "say", "shut", "then", "to"]) (kn0 : Kn P w K mg base cs "_law_parts" 5 ["script"] sp0) (kn1 : Kn P w K mg base cs "_law_cell_at" 1 ["script", "k"] sp1) (kn2 : KnG P w K mg base cs "_law_spoil" 4 ["parts", "which", "cell"] [0] (noX sp2)) (kn3 : Kn P w K mg base cs "_law_chart" 5 ["parts"] sp3) (kn4 : Kn P w K mg base cs "_law_refusal" 6 ["chart"] sp4) (kn5 : Kn P w K mg base cs "_law_bases" 6 ["chart"] sp5) {f : Addr} {cdv : Value} {A : Around} {outer : List PySem.Env} {sh : Shared} {H : Hp} {E : XK} (hr : Room 6 (A.deeper (envOfC "law" (defScope s_law_57) sh.heap.objs.size f cdv))) :
    VSs (cxOf CX0 P w K mg base ["script", "cell", "parts", "bits", "chosen", "k", "which", "chart"] "law" (defScope s_law_57) f cdv A outer sh H E).nox cs [] (defBody s_law_57) (w_law_57 sp0 sp1 sp2 sp3 sp4 sp5) :=
  (vss_cons (vs_setLc 0 1 rfl sc_law_57.nd rfl rfl (sw_true rfl rfl rfl (by decide +kernel)) (vi_seq (vt_sl (vp_v 0) vo_no (vo_some (vp_of vt_int)))) (blkOk_by (N := ["script", "cell", "parts", "bits", "chosen", "k", "which", "chart"]) (sc := defScope s_law_57) (by decide +kernel)) (fun _ _ _ _ _ => pg_name sc_law_57.nd rfl (Or.inl rfl)) (fun _ _ _ _ _ => vts_nil) (fun _ _ _ _ _ => (vt_op op_mod od_mod (vp_v 1) (vp_of (vt_op op_pow od_pow (vp_of vt_int) (vp_of vt_int)))))) (vss_cons (vs_set 2 (vt_fn kn0 (hr.mono (by decide)) rfl (va_cons (vp_v 0) va_nil)) sc_law_57.nd) (vss_cons (vs_set 3 (vt_op op_mod od_mod (vp_of (vt_op op_fdivW od_fdiv (vp_of (vt_fn kn1 (hr.mono (by decide)) rfl (va_cons (vp_v 0) (va_cons (vp_of vt_int) va_nil)))) (vp_of vt_int))) (vp_of vt_int)) sc_law_57.nd) (vss_cons (vs_set 4 (vt_lc 5 rfl sc_law_57.nd (vi_rng1 rfl (fr _ (by decide)) (va_cons (vp_of vt_int) va_nil)) (blkOk_by (N := ["script", "cell", "parts", "bits", "chosen", "k", "which", "chart"]) (sc := defScope s_law_57) (by decide +kernel)) (fun _ _ _ _ _ => pg_name sc_law_57.nd rfl (Or.inl rfl)) (fun _ _ _ _ _ => (vts_one (vb_cmp (op_eq2 hr.units) od_eq (vp_of (vt_op op_mod od_mod (vp_of (vt_op op_fdivW od_fdiv (vp_v 3) (vp_ix (vp_of (vt_lst (vm_cons vt_int (vm_cons vt_int (vm_cons vt_int (vm_cons vt_int (vm_cons vt_int vm_nil))))))) (vp_v 5)))) (vp_of vt_int))) (vp_of vt_int) (nomark _)))) (fun _ _ _ _ _ => (vt_tk (vp_v 5)))) sc_law_57.nd) (vss_cons (vs_if (vb_cmp op_lt od_cmp (vp_of (vt_callB call_len cd_len rfl (fr _ (by decide)) boot_more.1 (va_cons (vp_v 4) va_nil))) (vp_of vt_int) (nomark _)) (vss_one (vs_set 4 (vt_lst (vm_cons (vt_op op_mod od_mod (vp_v 3) (vp_of vt_int)) (vm_cons vt_int vm_nil))) sc_law_57.nd)) vss_nil) (vss_cons (vs_for 5 PassesOwn.never rfl (vi_rng1 rfl (fr _ (by decide)) (va_cons (vp_of (vt_callB call_len cd_len rfl (fr _ (by decide)) boot_more.1 (va_cons (vp_v 4) va_nil))) va_nil)) sc_law_57.nd (vss_cons (vs_set 6 (vt_tk (vp_ix (vp_v 4) (vp_of (vt_op op_sub od_sub (vp_of (vt_op op_sub od_sub (vp_of (vt_callB call_len cd_len rfl (fr _ (by decide)) boot_more.1 (va_cons (vp_v 4) va_nil))) (vp_of vt_int))) (vp_v 5))))) sc_law_57.nd) (vss_one (vs_exe (ve_call kn2 (hr.mono (by decide)) rfl takes0 (vas_io 2 (pv 2) (vas_tmp (ve_vt (vt_tk (vp_v 6))) (vas_tmp (ve_vt (vt_op op_mod od_mod (vp_of (vt_op op_fdivW od_fdiv (vp_of (vt_fn kn1 (hr.mono (by decide)) rfl (va_cons (vp_v 0) (va_cons (vp_of (vt_op op_add5 od_addG (vp_of vt_int) (vp_v 6))) va_nil)))) (vp_of vt_int))) (vp_of (vt_op op_pow od_pow (vp_of vt_int) (vp_of vt_int))))) vas_nil)))))))) (vss_cons (vs_set 7 (vt_fn kn3 (hr.mono (by decide)) rfl (va_cons (vp_v 2) va_nil)) sc_law_57.nd) (vss_cons (vs_if (vb_cmp (op_ne2 hr.units) od_ne (vp_of (vt_fn kn4 (hr.mono (by decide)) rfl (va_cons (vp_v 7) va_nil))) (vp_ix (vp_v 4) (vp_of vt_int)) (nomark _)) (vss_one (vs_ret vt_bl)) vss_nil) (vss_cons (vs_if (vb_cmp (op_ne2 hr.units) od_ne (vp_of (vt_fn kn5 (hr.mono (by decide)) rfl (va_cons (vp_v 7) va_nil))) (vp_of (vt_op op_add5 od_addG (vp_of (vt_lst (vm_cons vt_bl vm_nil))) (vp_of (vt_lc 5 rfl sc_law_57.nd (vi_rng1 rfl (fr _ (by decide)) (va_cons (vp_of vt_int) va_nil)) (blkOk_by (N := ["script", "cell", "parts", "bits", "chosen", "k", "which", "chart"]) (sc := defScope s_law_57) (by decide +kernel)) (fun _ _ _ _ _ => pg_name sc_law_57.nd rfl (Or.inl rfl)) (fun _ _ _ _ _ => vts_nil) (fun _ _ _ _ _ => (vt_cmp (op_eq2 hr.units) od_eq (vp_v 5) (vp_ix (vp_v 4) (vp_of vt_int)) (nomark _))))))) (nomark _)) (vss_one (vs_ret vt_bl)) vss_nil) (vss_one (vs_ret (vt_cmp (op_eq2 hr.units) od_eq (vp_of (vt_fn kn4 (hr.mono (by decide)) rfl (va_cons (vp_v 7) va_nil))) (vp_ix (vp_v 4) (vp_of vt_int)) (nomark _)))))))))))))
end
end VL
namespace VL
open PySem L2 PyProof.Rows
theorem all_mk {l : PySem.W.OpenLaw} {w : World} {K : PySem.W.Frag} {h : Heap} {mg : Str → Option Value} {fa : Addr} (X : K.In h) (G : h.Ns mainGlobals mg) (hfa : mg "law" = some (.ref fa))
    {C_Tree : Addr}
    (aC_Tree : PySem.W.nsIn K mainGlobals "Tree" = some (some (.ref C_Tree)))
    (pg_Tree : PySem.W.plainGet K C_Tree Str.empty = true) (hd_Tree : PySem.W.hasDictIn K C_Tree = true) (po_Tree : PySem.W.plainOver K C_Tree = true) (sa_Tree : PySem.W.findIn K (.ref C_Tree) "__setattr__" = some (some (.builtin "object.__setattr__"))) (mk_Tree : PySem.W.makesIn K C_Tree = true) (kc_Tree : PySem.W.keepIn K (.ref C_Tree) = true)
    (n_Tree_kinds : PySem.W.findIn K (.ref C_Tree) "kinds" = some none)
    (n_Tree_elders : PySem.W.findIn K (.ref C_Tree) "elders" = some none)
    (n_Tree_starts : PySem.W.findIn K (.ref C_Tree) "starts" = some none)
    {C_Chart : Addr}
    (aC_Chart : PySem.W.nsIn K mainGlobals "Chart" = some (some (.ref C_Chart)))
    (pg_Chart : PySem.W.plainGet K C_Chart Str.empty = true) (hd_Chart : PySem.W.hasDictIn K C_Chart = true) (po_Chart : PySem.W.plainOver K C_Chart = true) (sa_Chart : PySem.W.findIn K (.ref C_Chart) "__setattr__" = some (some (.builtin "object.__setattr__"))) (mk_Chart : PySem.W.makesIn K C_Chart = true) (kc_Chart : PySem.W.keepIn K (.ref C_Chart) = true)
    (n_Chart_boxes : PySem.W.findIn K (.ref C_Chart) "boxes" = some none)
    (n_Chart_names : PySem.W.findIn K (.ref C_Chart) "names" = some none)
    (n_Chart_tree : PySem.W.findIn K (.ref C_Chart) "tree" = some none)
    (n_Chart_ins : PySem.W.findIn K (.ref C_Chart) "ins" = some none)
    (n_Chart_outs : PySem.W.findIn K (.ref C_Chart) "outs" = some none)
    (n_Chart_ways : PySem.W.findIn K (.ref C_Chart) "ways" = some none)
    (isg : PySem.W.specialIn K (.builtin "object.__class__") "__get__" = some (some (.builtin "getset_descriptor.__get__"))) (ist : PySem.W.takesIn K (.builtin "object.__class__") = some true)
    {C_BadTree : Addr} (aC_BadTree : PySem.W.nsIn K mainGlobals "BadTree" = some (some (.ref C_BadTree)))
    {C_BadName : Addr} (aC_BadName : PySem.W.nsIn K mainGlobals "BadName" = some (some (.ref C_BadName)))
    {C_BadBox : Addr} (aC_BadBox : PySem.W.nsIn K mainGlobals "BadBox" = some (some (.ref C_BadBox)))
    {C_BadDeed : Addr} (aC_BadDeed : PySem.W.nsIn K mainGlobals "BadDeed" = some (some (.ref C_BadDeed)))
    {C_BadWay : Addr} (aC_BadWay : PySem.W.nsIn K mainGlobals "BadWay" = some (some (.ref C_BadWay)))
    {C_MoodError : Addr} (aC_MoodError : PySem.W.nsIn K mainGlobals "MoodError" = some (some (.ref C_MoodError)))
    (xs_BadTree : PySem.W.subIn K (.ref C_BadTree) (.type "BaseException") = some true) (xt_BadTree : PySem.W.typeIn K (.ref C_BadTree) = some (.type "type")) (xd_BadTree : PySem.W.hasDictIn K C_BadTree = true)
    (xs_BadName : PySem.W.subIn K (.ref C_BadName) (.type "BaseException") = some true) (xt_BadName : PySem.W.typeIn K (.ref C_BadName) = some (.type "type")) (xd_BadName : PySem.W.hasDictIn K C_BadName = true)
    (xs_BadBox : PySem.W.subIn K (.ref C_BadBox) (.type "BaseException") = some true) (xt_BadBox : PySem.W.typeIn K (.ref C_BadBox) = some (.type "type")) (xd_BadBox : PySem.W.hasDictIn K C_BadBox = true)
    (xs_BadDeed : PySem.W.subIn K (.ref C_BadDeed) (.type "BaseException") = some true) (xt_BadDeed : PySem.W.typeIn K (.ref C_BadDeed) = some (.type "type")) (xd_BadDeed : PySem.W.hasDictIn K C_BadDeed = true)
    (xs_BadWay : PySem.W.subIn K (.ref C_BadWay) (.type "BaseException") = some true) (xt_BadWay : PySem.W.typeIn K (.ref C_BadWay) = some (.type "type")) (xd_BadWay : PySem.W.hasDictIn K C_BadWay = true)
    (xs_MoodError : PySem.W.subIn K (.ref C_MoodError) (.type "BaseException") = some true) (xt_MoodError : PySem.W.typeIn K (.ref C_MoodError) = some (.type "type")) (xd_MoodError : PySem.W.hasDictIn K C_MoodError = true)
    (xk_BadTree : PySem.W.keepIn K (.ref C_BadTree) = true) (xe_BadTree : PySem.W.excIn K C_BadTree PySem.HandSPX.veTail "ValueError.__new__" = true)
    (xb_BadTree_MoodError : PySem.W.subIn K (.ref C_BadTree) (.ref C_MoodError) = some true)
    (xb_BadTree_BadTree : PySem.W.subIn K (.ref C_BadTree) (.ref C_BadTree) = some true)
    (xb_BadTree_BadName : PySem.W.subIn K (.ref C_BadTree) (.ref C_BadName) = some false)
    (xb_BadTree_BadBox : PySem.W.subIn K (.ref C_BadTree) (.ref C_BadBox) = some false)
    (xb_BadTree_BadDeed : PySem.W.subIn K (.ref C_BadTree) (.ref C_BadDeed) = some false)
    (xb_BadTree_BadWay : PySem.W.subIn K (.ref C_BadTree) (.ref C_BadWay) = some false)
    (xg_BadTree : PySem.W.findIn K (.ref C_BadTree) "__getattribute__" = some (some (.builtin "BaseException.__getattribute__"))) (xh_BadTree : PySem.W.findIn K (.ref C_BadTree) "__getattr__" = some none) (xa_BadTree : PySem.W.findIn K (.ref C_BadTree) "__class__" = some (some (.builtin "object.__class__"))) (xm_BadTree : PySem.W.mroIn K C_BadTree (.type "object") = some true)
    (xk_BadName : PySem.W.keepIn K (.ref C_BadName) = true) (xe_BadName : PySem.W.excIn K C_BadName PySem.HandSPX.veTail "ValueError.__new__" = true)
    (xb_BadName_MoodError : PySem.W.subIn K (.ref C_BadName) (.ref C_MoodError) = some true)
    (xb_BadName_BadName : PySem.W.subIn K (.ref C_BadName) (.ref C_BadName) = some true)
    (xb_BadName_BadTree : PySem.W.subIn K (.ref C_BadName) (.ref C_BadTree) = some false)
    (xb_BadName_BadBox : PySem.W.subIn K (.ref C_BadName) (.ref C_BadBox) = some false)
    (xb_BadName_BadDeed : PySem.W.subIn K (.ref C_BadName) (.ref C_BadDeed) = some false)
    (xb_BadName_BadWay : PySem.W.subIn K (.ref C_BadName) (.ref C_BadWay) = some false)
    (xg_BadName : PySem.W.findIn K (.ref C_BadName) "__getattribute__" = some (some (.builtin "BaseException.__getattribute__"))) (xh_BadName : PySem.W.findIn K (.ref C_BadName) "__getattr__" = some none) (xa_BadName : PySem.W.findIn K (.ref C_BadName) "__class__" = some (some (.builtin "object.__class__"))) (xm_BadName : PySem.W.mroIn K C_BadName (.type "object") = some true)
    (xk_BadBox : PySem.W.keepIn K (.ref C_BadBox) = true) (xe_BadBox : PySem.W.excIn K C_BadBox PySem.HandSPX.veTail "ValueError.__new__" = true)
    (xb_BadBox_MoodError : PySem.W.subIn K (.ref C_BadBox) (.ref C_MoodError) = some true)
    (xb_BadBox_BadBox : PySem.W.subIn K (.ref C_BadBox) (.ref C_BadBox) = some true)
    (xb_BadBox_BadTree : PySem.W.subIn K (.ref C_BadBox) (.ref C_BadTree) = some false)
    (xb_BadBox_BadName : PySem.W.subIn K (.ref C_BadBox) (.ref C_BadName) = some false)
    (xb_BadBox_BadDeed : PySem.W.subIn K (.ref C_BadBox) (.ref C_BadDeed) = some false)
    (xb_BadBox_BadWay : PySem.W.subIn K (.ref C_BadBox) (.ref C_BadWay) = some false)
    (xg_BadBox : PySem.W.findIn K (.ref C_BadBox) "__getattribute__" = some (some (.builtin "BaseException.__getattribute__"))) (xh_BadBox : PySem.W.findIn K (.ref C_BadBox) "__getattr__" = some none) (xa_BadBox : PySem.W.findIn K (.ref C_BadBox) "__class__" = some (some (.builtin "object.__class__"))) (xm_BadBox : PySem.W.mroIn K C_BadBox (.type "object") = some true)
    (xk_BadDeed : PySem.W.keepIn K (.ref C_BadDeed) = true) (xe_BadDeed : PySem.W.excIn K C_BadDeed PySem.HandSPX.veTail "ValueError.__new__" = true)
    (xb_BadDeed_MoodError : PySem.W.subIn K (.ref C_BadDeed) (.ref C_MoodError) = some true)
    (xb_BadDeed_BadDeed : PySem.W.subIn K (.ref C_BadDeed) (.ref C_BadDeed) = some true)
    (xb_BadDeed_BadTree : PySem.W.subIn K (.ref C_BadDeed) (.ref C_BadTree) = some false)
    (xb_BadDeed_BadName : PySem.W.subIn K (.ref C_BadDeed) (.ref C_BadName) = some false)
    (xb_BadDeed_BadBox : PySem.W.subIn K (.ref C_BadDeed) (.ref C_BadBox) = some false)
    (xb_BadDeed_BadWay : PySem.W.subIn K (.ref C_BadDeed) (.ref C_BadWay) = some false)
    (xg_BadDeed : PySem.W.findIn K (.ref C_BadDeed) "__getattribute__" = some (some (.builtin "BaseException.__getattribute__"))) (xh_BadDeed : PySem.W.findIn K (.ref C_BadDeed) "__getattr__" = some none) (xa_BadDeed : PySem.W.findIn K (.ref C_BadDeed) "__class__" = some (some (.builtin "object.__class__"))) (xm_BadDeed : PySem.W.mroIn K C_BadDeed (.type "object") = some true)
    (xk_BadWay : PySem.W.keepIn K (.ref C_BadWay) = true) (xe_BadWay : PySem.W.excIn K C_BadWay PySem.HandSPX.veTail "ValueError.__new__" = true)
    (xb_BadWay_MoodError : PySem.W.subIn K (.ref C_BadWay) (.ref C_MoodError) = some true)
    (xb_BadWay_BadWay : PySem.W.subIn K (.ref C_BadWay) (.ref C_BadWay) = some true)
    (xb_BadWay_BadTree : PySem.W.subIn K (.ref C_BadWay) (.ref C_BadTree) = some false)
    (xb_BadWay_BadName : PySem.W.subIn K (.ref C_BadWay) (.ref C_BadName) = some false)
    (xb_BadWay_BadBox : PySem.W.subIn K (.ref C_BadWay) (.ref C_BadBox) = some false)
    (xb_BadWay_BadDeed : PySem.W.subIn K (.ref C_BadWay) (.ref C_BadDeed) = some false)
    (xg_BadWay : PySem.W.findIn K (.ref C_BadWay) "__getattribute__" = some (some (.builtin "BaseException.__getattribute__"))) (xh_BadWay : PySem.W.findIn K (.ref C_BadWay) "__getattr__" = some none) (xa_BadWay : PySem.W.findIn K (.ref C_BadWay) "__class__" = some (some (.builtin "object.__class__"))) (xm_BadWay : PySem.W.mroIn K C_BadWay (.type "object") = some true)
    (xi_BadTree_ValueError : PySem.W.subIn K (.ref C_BadTree) (.type "ValueError") = some true)
    (xi_BadName_ValueError : PySem.W.subIn K (.ref C_BadName) (.type "ValueError") = some true)
    (xi_BadBox_ValueError : PySem.W.subIn K (.ref C_BadBox) (.type "ValueError") = some true)
    (xi_BadDeed_ValueError : PySem.W.subIn K (.ref C_BadDeed) (.type "ValueError") = some true)
    (xi_BadWay_ValueError : PySem.W.subIn K (.ref C_BadWay) (.type "ValueError") = some true)
    (xp_BadTree : PySem.W.isClsIn K C_BadTree = true) (xq_BadTree : PySem.W.typeIn K (.ref C_BadTree) = some (.type "type"))
    (xo_BadTree_BadTree : PySem.W.subIn K (.ref C_BadTree) (.ref C_BadTree) = some true)
    (xo_BadName_BadTree : PySem.W.subIn K (.ref C_BadName) (.ref C_BadTree) = some false)
    (xo_BadBox_BadTree : PySem.W.subIn K (.ref C_BadBox) (.ref C_BadTree) = some false)
    (xo_BadDeed_BadTree : PySem.W.subIn K (.ref C_BadDeed) (.ref C_BadTree) = some false)
    (xo_BadWay_BadTree : PySem.W.subIn K (.ref C_BadWay) (.ref C_BadTree) = some false)
    (xp_BadName : PySem.W.isClsIn K C_BadName = true) (xq_BadName : PySem.W.typeIn K (.ref C_BadName) = some (.type "type"))
    (xo_BadTree_BadName : PySem.W.subIn K (.ref C_BadTree) (.ref C_BadName) = some false)
    (xo_BadName_BadName : PySem.W.subIn K (.ref C_BadName) (.ref C_BadName) = some true)
    (xo_BadBox_BadName : PySem.W.subIn K (.ref C_BadBox) (.ref C_BadName) = some false)
    (xo_BadDeed_BadName : PySem.W.subIn K (.ref C_BadDeed) (.ref C_BadName) = some false)
    (xo_BadWay_BadName : PySem.W.subIn K (.ref C_BadWay) (.ref C_BadName) = some false)
    (xp_BadBox : PySem.W.isClsIn K C_BadBox = true) (xq_BadBox : PySem.W.typeIn K (.ref C_BadBox) = some (.type "type"))
    (xo_BadTree_BadBox : PySem.W.subIn K (.ref C_BadTree) (.ref C_BadBox) = some false)
    (xo_BadName_BadBox : PySem.W.subIn K (.ref C_BadName) (.ref C_BadBox) = some false)
    (xo_BadBox_BadBox : PySem.W.subIn K (.ref C_BadBox) (.ref C_BadBox) = some true)
    (xo_BadDeed_BadBox : PySem.W.subIn K (.ref C_BadDeed) (.ref C_BadBox) = some false)
    (xo_BadWay_BadBox : PySem.W.subIn K (.ref C_BadWay) (.ref C_BadBox) = some false)
    (xp_BadDeed : PySem.W.isClsIn K C_BadDeed = true) (xq_BadDeed : PySem.W.typeIn K (.ref C_BadDeed) = some (.type "type"))
    (xo_BadTree_BadDeed : PySem.W.subIn K (.ref C_BadTree) (.ref C_BadDeed) = some false)
    (xo_BadName_BadDeed : PySem.W.subIn K (.ref C_BadName) (.ref C_BadDeed) = some false)
    (xo_BadBox_BadDeed : PySem.W.subIn K (.ref C_BadBox) (.ref C_BadDeed) = some false)
    (xo_BadDeed_BadDeed : PySem.W.subIn K (.ref C_BadDeed) (.ref C_BadDeed) = some true)
    (xo_BadWay_BadDeed : PySem.W.subIn K (.ref C_BadWay) (.ref C_BadDeed) = some false)
    (xp_BadWay : PySem.W.isClsIn K C_BadWay = true) (xq_BadWay : PySem.W.typeIn K (.ref C_BadWay) = some (.type "type"))
    (xo_BadTree_BadWay : PySem.W.subIn K (.ref C_BadTree) (.ref C_BadWay) = some false)
    (xo_BadName_BadWay : PySem.W.subIn K (.ref C_BadName) (.ref C_BadWay) = some false)
    (xo_BadBox_BadWay : PySem.W.subIn K (.ref C_BadBox) (.ref C_BadWay) = some false)
    (xo_BadDeed_BadWay : PySem.W.subIn K (.ref C_BadDeed) (.ref C_BadWay) = some false)
    (xo_BadWay_BadWay : PySem.W.subIn K (.ref C_BadWay) (.ref C_BadWay) = some true)
    {f_L_above : Addr} {od_L_above an_L_above : Option Addr} {sl_L_above : Array (Option Value)} {oc_L_above kV_L_above dc_L_above pm_L_above cd_L_above ct_L_above : Value}
    (a_L_above : PySem.W.nsIn K mainGlobals "_law_above" = some (some (.ref f_L_above)))
    (l_L_above : K.lookup f_L_above = some ⟨oc_L_above, od_L_above, .func (PySem.W.fnOf "_law_above" "_law_above" (defArgs s_L_above) (defBody s_L_above) (defScope s_L_above) .none kV_L_above dc_L_above pm_L_above an_L_above cd_L_above ct_L_above), sl_L_above⟩) (c_L_above : PySem.W.codeIn K cd_L_above "_law_above" = true) (k_L_above : PySem.W.keepIn K (.ref f_L_above) = true)
    {f_L_cell_at : Addr} {od_L_cell_at an_L_cell_at : Option Addr} {sl_L_cell_at : Array (Option Value)} {oc_L_cell_at kV_L_cell_at dc_L_cell_at pm_L_cell_at cd_L_cell_at ct_L_cell_at : Value}
    (a_L_cell_at : PySem.W.nsIn K mainGlobals "_law_cell_at" = some (some (.ref f_L_cell_at)))
    (l_L_cell_at : K.lookup f_L_cell_at = some ⟨oc_L_cell_at, od_L_cell_at, .func (PySem.W.fnOf "_law_cell_at" "_law_cell_at" (defArgs s_L_cell_at) (defBody s_L_cell_at) (defScope s_L_cell_at) .none kV_L_cell_at dc_L_cell_at pm_L_cell_at an_L_cell_at cd_L_cell_at ct_L_cell_at), sl_L_cell_at⟩) (c_L_cell_at : PySem.W.codeIn K cd_L_cell_at "_law_cell_at" = true) (k_L_cell_at : PySem.W.keepIn K (.ref f_L_cell_at) = true)
    {f_L_elders_6 : Addr} {od_L_elders_6 an_L_elders_6 : Option Addr} {sl_L_elders_6 : Array (Option Value)} {oc_L_elders_6 kV_L_elders_6 dc_L_elders_6 pm_L_elders_6 cd_L_elders_6 ct_L_elders_6 : Value}
    (a_L_elders_6 : PySem.W.nsIn K mainGlobals "_law_elders" = some (some (.ref f_L_elders_6)))
    (l_L_elders_6 : K.lookup f_L_elders_6 = some ⟨oc_L_elders_6, od_L_elders_6, .func (PySem.W.fnOf "_law_elders" "_law_elders" (defArgs s_L_elders_6) (defBody s_L_elders_6) (defScope s_L_elders_6) .none kV_L_elders_6 dc_L_elders_6 pm_L_elders_6 an_L_elders_6 cd_L_elders_6 ct_L_elders_6), sl_L_elders_6⟩) (c_L_elders_6 : PySem.W.codeIn K cd_L_elders_6 "_law_elders" = true) (k_L_elders_6 : PySem.W.keepIn K (.ref f_L_elders_6) = true)
    {f_L_kinds_3 : Addr} {od_L_kinds_3 an_L_kinds_3 : Option Addr} {sl_L_kinds_3 : Array (Option Value)} {oc_L_kinds_3 kV_L_kinds_3 dc_L_kinds_3 pm_L_kinds_3 cd_L_kinds_3 ct_L_kinds_3 : Value}
    (a_L_kinds_3 : PySem.W.nsIn K mainGlobals "_law_kinds" = some (some (.ref f_L_kinds_3)))
    (l_L_kinds_3 : K.lookup f_L_kinds_3 = some ⟨oc_L_kinds_3, od_L_kinds_3, .func (PySem.W.fnOf "_law_kinds" "_law_kinds" (defArgs s_L_kinds_3) (defBody s_L_kinds_3) (defScope s_L_kinds_3) .none kV_L_kinds_3 dc_L_kinds_3 pm_L_kinds_3 an_L_kinds_3 cd_L_kinds_3 ct_L_kinds_3), sl_L_kinds_3⟩) (c_L_kinds_3 : PySem.W.codeIn K cd_L_kinds_3 "_law_kinds" = true) (k_L_kinds_3 : PySem.W.keepIn K (.ref f_L_kinds_3) = true)
    {f_L_names : Addr} {od_L_names an_L_names : Option Addr} {sl_L_names : Array (Option Value)} {oc_L_names kV_L_names dc_L_names pm_L_names cd_L_names ct_L_names : Value}
    (a_L_names : PySem.W.nsIn K mainGlobals "_law_names" = some (some (.ref f_L_names)))
    (l_L_names : K.lookup f_L_names = some ⟨oc_L_names, od_L_names, .func (PySem.W.fnOf "_law_names" "_law_names" (defArgs s_L_names) (defBody s_L_names) (defScope s_L_names) .none kV_L_names dc_L_names pm_L_names an_L_names cd_L_names ct_L_names), sl_L_names⟩) (c_L_names : PySem.W.codeIn K cd_L_names "_law_names" = true) (k_L_names : PySem.W.keepIn K (.ref f_L_names) = true)
    {f_L_far_2 : Addr} {od_L_far_2 an_L_far_2 : Option Addr} {sl_L_far_2 : Array (Option Value)} {oc_L_far_2 kV_L_far_2 dc_L_far_2 pm_L_far_2 cd_L_far_2 ct_L_far_2 : Value}
    (a_L_far_2 : PySem.W.nsIn K mainGlobals "_law_far" = some (some (.ref f_L_far_2)))
    (l_L_far_2 : K.lookup f_L_far_2 = some ⟨oc_L_far_2, od_L_far_2, .func (PySem.W.fnOf "_law_far" "_law_far" (defArgs s_L_far_2) (defBody s_L_far_2) (defScope s_L_far_2) .none kV_L_far_2 dc_L_far_2 pm_L_far_2 an_L_far_2 cd_L_far_2 ct_L_far_2), sl_L_far_2⟩) (c_L_far_2 : PySem.W.codeIn K cd_L_far_2 "_law_far" = true) (k_L_far_2 : PySem.W.keepIn K (.ref f_L_far_2) = true)
    {f_L_term_3 : Addr} {od_L_term_3 an_L_term_3 : Option Addr} {sl_L_term_3 : Array (Option Value)} {oc_L_term_3 kV_L_term_3 dc_L_term_3 pm_L_term_3 cd_L_term_3 ct_L_term_3 : Value}
    (a_L_term_3 : PySem.W.nsIn K mainGlobals "_law_term" = some (some (.ref f_L_term_3)))
    (l_L_term_3 : K.lookup f_L_term_3 = some ⟨oc_L_term_3, od_L_term_3, .func (PySem.W.fnOf "_law_term" "_law_term" (defArgs s_L_term_3) (defBody s_L_term_3) (defScope s_L_term_3) .none kV_L_term_3 dc_L_term_3 pm_L_term_3 an_L_term_3 cd_L_term_3 ct_L_term_3), sl_L_term_3⟩) (c_L_term_3 : PySem.W.codeIn K cd_L_term_3 "_law_term" = true) (k_L_term_3 : PySem.W.keepIn K (.ref f_L_term_3) = true)
    {f_L_deed_2 : Addr} {od_L_deed_2 an_L_deed_2 : Option Addr} {sl_L_deed_2 : Array (Option Value)} {oc_L_deed_2 kV_L_deed_2 dc_L_deed_2 pm_L_deed_2 cd_L_deed_2 ct_L_deed_2 : Value}
    (a_L_deed_2 : PySem.W.nsIn K mainGlobals "_law_deed" = some (some (.ref f_L_deed_2)))
    (l_L_deed_2 : K.lookup f_L_deed_2 = some ⟨oc_L_deed_2, od_L_deed_2, .func (PySem.W.fnOf "_law_deed" "_law_deed" (defArgs s_L_deed_2) (defBody s_L_deed_2) (defScope s_L_deed_2) .none kV_L_deed_2 dc_L_deed_2 pm_L_deed_2 an_L_deed_2 cd_L_deed_2 ct_L_deed_2), sl_L_deed_2⟩) (c_L_deed_2 : PySem.W.codeIn K cd_L_deed_2 "_law_deed" = true) (k_L_deed_2 : PySem.W.keepIn K (.ref f_L_deed_2) = true)
    {f_L_rows_3 : Addr} {od_L_rows_3 an_L_rows_3 : Option Addr} {sl_L_rows_3 : Array (Option Value)} {oc_L_rows_3 kV_L_rows_3 dc_L_rows_3 pm_L_rows_3 cd_L_rows_3 ct_L_rows_3 : Value}
    (a_L_rows_3 : PySem.W.nsIn K mainGlobals "_law_rows" = some (some (.ref f_L_rows_3)))
    (l_L_rows_3 : K.lookup f_L_rows_3 = some ⟨oc_L_rows_3, od_L_rows_3, .func (PySem.W.fnOf "_law_rows" "_law_rows" (defArgs s_L_rows_3) (defBody s_L_rows_3) (defScope s_L_rows_3) .none kV_L_rows_3 dc_L_rows_3 pm_L_rows_3 an_L_rows_3 cd_L_rows_3 ct_L_rows_3), sl_L_rows_3⟩) (c_L_rows_3 : PySem.W.codeIn K cd_L_rows_3 "_law_rows" = true) (k_L_rows_3 : PySem.W.keepIn K (.ref f_L_rows_3) = true)
    {f_L_ask_3 : Addr} {od_L_ask_3 an_L_ask_3 : Option Addr} {sl_L_ask_3 : Array (Option Value)} {oc_L_ask_3 kV_L_ask_3 dc_L_ask_3 pm_L_ask_3 cd_L_ask_3 ct_L_ask_3 : Value}
    (a_L_ask_3 : PySem.W.nsIn K mainGlobals "_law_ask" = some (some (.ref f_L_ask_3)))
    (l_L_ask_3 : K.lookup f_L_ask_3 = some ⟨oc_L_ask_3, od_L_ask_3, .func (PySem.W.fnOf "_law_ask" "_law_ask" (defArgs s_L_ask_3) (defBody s_L_ask_3) (defScope s_L_ask_3) .none kV_L_ask_3 dc_L_ask_3 pm_L_ask_3 an_L_ask_3 cd_L_ask_3 ct_L_ask_3), sl_L_ask_3⟩) (c_L_ask_3 : PySem.W.codeIn K cd_L_ask_3 "_law_ask" = true) (k_L_ask_3 : PySem.W.keepIn K (.ref f_L_ask_3) = true)
    {f_L_way_2 : Addr} {od_L_way_2 an_L_way_2 : Option Addr} {sl_L_way_2 : Array (Option Value)} {oc_L_way_2 kV_L_way_2 dc_L_way_2 pm_L_way_2 cd_L_way_2 ct_L_way_2 : Value}
    (a_L_way_2 : PySem.W.nsIn K mainGlobals "_law_way" = some (some (.ref f_L_way_2)))
    (l_L_way_2 : K.lookup f_L_way_2 = some ⟨oc_L_way_2, od_L_way_2, .func (PySem.W.fnOf "_law_way" "_law_way" (defArgs s_L_way_2) (defBody s_L_way_2) (defScope s_L_way_2) .none kV_L_way_2 dc_L_way_2 pm_L_way_2 an_L_way_2 cd_L_way_2 ct_L_way_2), sl_L_way_2⟩) (c_L_way_2 : PySem.W.codeIn K cd_L_way_2 "_law_way" = true) (k_L_way_2 : PySem.W.keepIn K (.ref f_L_way_2) = true)
    {f_L_partsM : Addr} {od_L_partsM an_L_partsM : Option Addr} {sl_L_partsM : Array (Option Value)} {oc_L_partsM kV_L_partsM dc_L_partsM pm_L_partsM cd_L_partsM ct_L_partsM : Value}
    (a_L_partsM : PySem.W.nsIn K mainGlobals "_law_parts" = some (some (.ref f_L_partsM)))
    (l_L_partsM : K.lookup f_L_partsM = some ⟨oc_L_partsM, od_L_partsM, .func (PySem.W.fnOf "_law_parts" "_law_parts" (defArgs s_L_partsM) (defBody s_L_partsM) (defScope s_L_partsM) .none kV_L_partsM dc_L_partsM pm_L_partsM an_L_partsM cd_L_partsM ct_L_partsM), sl_L_partsM⟩) (c_L_partsM : PySem.W.codeIn K cd_L_partsM "_law_parts" = true) (k_L_partsM : PySem.W.keepIn K (.ref f_L_partsM) = true)
    {f_Tree_init : Addr} {od_Tree_init an_Tree_init : Option Addr} {sl_Tree_init : Array (Option Value)} {oc_Tree_init kV_Tree_init dc_Tree_init pm_Tree_init cd_Tree_init ct_Tree_init : Value}
    (a_Tree_init : PySem.W.findIn K (.ref C_Tree) "__init__" = some (some (.ref f_Tree_init))) (i_Tree_init : PySem.W.isFn K (.ref f_Tree_init) = true)
    (l_Tree_init : K.lookup f_Tree_init = some ⟨oc_Tree_init, od_Tree_init, .func (PySem.W.fnOf "__init__" "Tree.__init__" (defArgs s_Tree_init) (defBody s_Tree_init) (defScope s_Tree_init) .none kV_Tree_init dc_Tree_init pm_Tree_init an_Tree_init cd_Tree_init ct_Tree_init), sl_Tree_init⟩) (c_Tree_init : PySem.W.codeIn K cd_Tree_init "Tree.__init__" = true) (k_Tree_init : PySem.W.keepIn K (.ref f_Tree_init) = true)
    {f_Chart_init : Addr} {od_Chart_init an_Chart_init : Option Addr} {sl_Chart_init : Array (Option Value)} {oc_Chart_init kV_Chart_init dc_Chart_init pm_Chart_init cd_Chart_init ct_Chart_init : Value}
    (a_Chart_init : PySem.W.findIn K (.ref C_Chart) "__init__" = some (some (.ref f_Chart_init))) (i_Chart_init : PySem.W.isFn K (.ref f_Chart_init) = true)
    (l_Chart_init : K.lookup f_Chart_init = some ⟨oc_Chart_init, od_Chart_init, .func (PySem.W.fnOf "__init__" "Chart.__init__" (defArgs s_Chart_init) (defBody s_Chart_init) (defScope s_Chart_init) .none kV_Chart_init dc_Chart_init pm_Chart_init an_Chart_init cd_Chart_init ct_Chart_init), sl_Chart_init⟩) (c_Chart_init : PySem.W.codeIn K cd_Chart_init "Chart.__init__" = true) (k_Chart_init : PySem.W.keepIn K (.ref f_Chart_init) = true)
    {f_L_chart_8 : Addr} {od_L_chart_8 an_L_chart_8 : Option Addr} {sl_L_chart_8 : Array (Option Value)} {oc_L_chart_8 kV_L_chart_8 dc_L_chart_8 pm_L_chart_8 cd_L_chart_8 ct_L_chart_8 : Value}
    (a_L_chart_8 : PySem.W.nsIn K mainGlobals "_law_chart" = some (some (.ref f_L_chart_8)))
    (l_L_chart_8 : K.lookup f_L_chart_8 = some ⟨oc_L_chart_8, od_L_chart_8, .func (PySem.W.fnOf "_law_chart" "_law_chart" (defArgs s_L_chart_8) (defBody s_L_chart_8) (defScope s_L_chart_8) .none kV_L_chart_8 dc_L_chart_8 pm_L_chart_8 an_L_chart_8 cd_L_chart_8 ct_L_chart_8), sl_L_chart_8⟩) (c_L_chart_8 : PySem.W.codeIn K cd_L_chart_8 "_law_chart" = true) (k_L_chart_8 : PySem.W.keepIn K (.ref f_L_chart_8) = true)
    {f_L_spoil_tree : Addr} {od_L_spoil_tree an_L_spoil_tree : Option Addr} {sl_L_spoil_tree : Array (Option Value)} {oc_L_spoil_tree kV_L_spoil_tree dc_L_spoil_tree pm_L_spoil_tree cd_L_spoil_tree ct_L_spoil_tree : Value}
    (a_L_spoil_tree : PySem.W.nsIn K mainGlobals "_law_spoil_tree" = some (some (.ref f_L_spoil_tree)))
    (l_L_spoil_tree : K.lookup f_L_spoil_tree = some ⟨oc_L_spoil_tree, od_L_spoil_tree, .func (PySem.W.fnOf "_law_spoil_tree" "_law_spoil_tree" (defArgs s_L_spoil_tree) (defBody s_L_spoil_tree) (defScope s_L_spoil_tree) .none kV_L_spoil_tree dc_L_spoil_tree pm_L_spoil_tree an_L_spoil_tree cd_L_spoil_tree ct_L_spoil_tree), sl_L_spoil_tree⟩) (c_L_spoil_tree : PySem.W.codeIn K cd_L_spoil_tree "_law_spoil_tree" = true) (k_L_spoil_tree : PySem.W.keepIn K (.ref f_L_spoil_tree) = true)
    {f_L_bad_name : Addr} {od_L_bad_name an_L_bad_name : Option Addr} {sl_L_bad_name : Array (Option Value)} {oc_L_bad_name kV_L_bad_name dc_L_bad_name pm_L_bad_name cd_L_bad_name ct_L_bad_name : Value}
    (a_L_bad_name : PySem.W.nsIn K mainGlobals "_law_bad_name" = some (some (.ref f_L_bad_name)))
    (l_L_bad_name : K.lookup f_L_bad_name = some ⟨oc_L_bad_name, od_L_bad_name, .func (PySem.W.fnOf "_law_bad_name" "_law_bad_name" (defArgs s_L_bad_name) (defBody s_L_bad_name) (defScope s_L_bad_name) .none kV_L_bad_name dc_L_bad_name pm_L_bad_name an_L_bad_name cd_L_bad_name ct_L_bad_name), sl_L_bad_name⟩) (c_L_bad_name : PySem.W.codeIn K cd_L_bad_name "_law_bad_name" = true) (k_L_bad_name : PySem.W.keepIn K (.ref f_L_bad_name) = true)
    {f_L_spoil_name : Addr} {od_L_spoil_name an_L_spoil_name : Option Addr} {sl_L_spoil_name : Array (Option Value)} {oc_L_spoil_name kV_L_spoil_name dc_L_spoil_name pm_L_spoil_name cd_L_spoil_name ct_L_spoil_name : Value}
    (a_L_spoil_name : PySem.W.nsIn K mainGlobals "_law_spoil_name" = some (some (.ref f_L_spoil_name)))
    (l_L_spoil_name : K.lookup f_L_spoil_name = some ⟨oc_L_spoil_name, od_L_spoil_name, .func (PySem.W.fnOf "_law_spoil_name" "_law_spoil_name" (defArgs s_L_spoil_name) (defBody s_L_spoil_name) (defScope s_L_spoil_name) .none kV_L_spoil_name dc_L_spoil_name pm_L_spoil_name an_L_spoil_name cd_L_spoil_name ct_L_spoil_name), sl_L_spoil_name⟩) (c_L_spoil_name : PySem.W.codeIn K cd_L_spoil_name "_law_spoil_name" = true) (k_L_spoil_name : PySem.W.keepIn K (.ref f_L_spoil_name) = true)
    {f_L_spoil_box : Addr} {od_L_spoil_box an_L_spoil_box : Option Addr} {sl_L_spoil_box : Array (Option Value)} {oc_L_spoil_box kV_L_spoil_box dc_L_spoil_box pm_L_spoil_box cd_L_spoil_box ct_L_spoil_box : Value}
    (a_L_spoil_box : PySem.W.nsIn K mainGlobals "_law_spoil_box" = some (some (.ref f_L_spoil_box)))
    (l_L_spoil_box : K.lookup f_L_spoil_box = some ⟨oc_L_spoil_box, od_L_spoil_box, .func (PySem.W.fnOf "_law_spoil_box" "_law_spoil_box" (defArgs s_L_spoil_box) (defBody s_L_spoil_box) (defScope s_L_spoil_box) .none kV_L_spoil_box dc_L_spoil_box pm_L_spoil_box an_L_spoil_box cd_L_spoil_box ct_L_spoil_box), sl_L_spoil_box⟩) (c_L_spoil_box : PySem.W.codeIn K cd_L_spoil_box "_law_spoil_box" = true) (k_L_spoil_box : PySem.W.keepIn K (.ref f_L_spoil_box) = true)
    {f_L_bad_term : Addr} {od_L_bad_term an_L_bad_term : Option Addr} {sl_L_bad_term : Array (Option Value)} {oc_L_bad_term kV_L_bad_term dc_L_bad_term pm_L_bad_term cd_L_bad_term ct_L_bad_term : Value}
    (a_L_bad_term : PySem.W.nsIn K mainGlobals "_law_bad_term" = some (some (.ref f_L_bad_term)))
    (l_L_bad_term : K.lookup f_L_bad_term = some ⟨oc_L_bad_term, od_L_bad_term, .func (PySem.W.fnOf "_law_bad_term" "_law_bad_term" (defArgs s_L_bad_term) (defBody s_L_bad_term) (defScope s_L_bad_term) .none kV_L_bad_term dc_L_bad_term pm_L_bad_term an_L_bad_term cd_L_bad_term ct_L_bad_term), sl_L_bad_term⟩) (c_L_bad_term : PySem.W.codeIn K cd_L_bad_term "_law_bad_term" = true) (k_L_bad_term : PySem.W.keepIn K (.ref f_L_bad_term) = true)
    {f_L_bad_deed : Addr} {od_L_bad_deed an_L_bad_deed : Option Addr} {sl_L_bad_deed : Array (Option Value)} {oc_L_bad_deed kV_L_bad_deed dc_L_bad_deed pm_L_bad_deed cd_L_bad_deed ct_L_bad_deed : Value}
    (a_L_bad_deed : PySem.W.nsIn K mainGlobals "_law_bad_deed" = some (some (.ref f_L_bad_deed)))
    (l_L_bad_deed : K.lookup f_L_bad_deed = some ⟨oc_L_bad_deed, od_L_bad_deed, .func (PySem.W.fnOf "_law_bad_deed" "_law_bad_deed" (defArgs s_L_bad_deed) (defBody s_L_bad_deed) (defScope s_L_bad_deed) .none kV_L_bad_deed dc_L_bad_deed pm_L_bad_deed an_L_bad_deed cd_L_bad_deed ct_L_bad_deed), sl_L_bad_deed⟩) (c_L_bad_deed : PySem.W.codeIn K cd_L_bad_deed "_law_bad_deed" = true) (k_L_bad_deed : PySem.W.keepIn K (.ref f_L_bad_deed) = true)
    {f_L_put_in : Addr} {od_L_put_in an_L_put_in : Option Addr} {sl_L_put_in : Array (Option Value)} {oc_L_put_in kV_L_put_in dc_L_put_in pm_L_put_in cd_L_put_in ct_L_put_in : Value}
    (a_L_put_in : PySem.W.nsIn K mainGlobals "_law_put_in" = some (some (.ref f_L_put_in)))
    (l_L_put_in : K.lookup f_L_put_in = some ⟨oc_L_put_in, od_L_put_in, .func (PySem.W.fnOf "_law_put_in" "_law_put_in" (defArgs s_L_put_in) (defBody s_L_put_in) (defScope s_L_put_in) .none kV_L_put_in dc_L_put_in pm_L_put_in an_L_put_in cd_L_put_in ct_L_put_in), sl_L_put_in⟩) (c_L_put_in : PySem.W.codeIn K cd_L_put_in "_law_put_in" = true) (k_L_put_in : PySem.W.keepIn K (.ref f_L_put_in) = true)
    {f_L_spoil_deed : Addr} {od_L_spoil_deed an_L_spoil_deed : Option Addr} {sl_L_spoil_deed : Array (Option Value)} {oc_L_spoil_deed kV_L_spoil_deed dc_L_spoil_deed pm_L_spoil_deed cd_L_spoil_deed ct_L_spoil_deed : Value}
    (a_L_spoil_deed : PySem.W.nsIn K mainGlobals "_law_spoil_deed" = some (some (.ref f_L_spoil_deed)))
    (l_L_spoil_deed : K.lookup f_L_spoil_deed = some ⟨oc_L_spoil_deed, od_L_spoil_deed, .func (PySem.W.fnOf "_law_spoil_deed" "_law_spoil_deed" (defArgs s_L_spoil_deed) (defBody s_L_spoil_deed) (defScope s_L_spoil_deed) .none kV_L_spoil_deed dc_L_spoil_deed pm_L_spoil_deed an_L_spoil_deed cd_L_spoil_deed ct_L_spoil_deed), sl_L_spoil_deed⟩) (c_L_spoil_deed : PySem.W.codeIn K cd_L_spoil_deed "_law_spoil_deed" = true) (k_L_spoil_deed : PySem.W.keepIn K (.ref f_L_spoil_deed) = true)
    {f_L_bad_ask : Addr} {od_L_bad_ask an_L_bad_ask : Option Addr} {sl_L_bad_ask : Array (Option Value)} {oc_L_bad_ask kV_L_bad_ask dc_L_bad_ask pm_L_bad_ask cd_L_bad_ask ct_L_bad_ask : Value}
    (a_L_bad_ask : PySem.W.nsIn K mainGlobals "_law_bad_ask" = some (some (.ref f_L_bad_ask)))
    (l_L_bad_ask : K.lookup f_L_bad_ask = some ⟨oc_L_bad_ask, od_L_bad_ask, .func (PySem.W.fnOf "_law_bad_ask" "_law_bad_ask" (defArgs s_L_bad_ask) (defBody s_L_bad_ask) (defScope s_L_bad_ask) .none kV_L_bad_ask dc_L_bad_ask pm_L_bad_ask an_L_bad_ask cd_L_bad_ask ct_L_bad_ask), sl_L_bad_ask⟩) (c_L_bad_ask : PySem.W.codeIn K cd_L_bad_ask "_law_bad_ask" = true) (k_L_bad_ask : PySem.W.keepIn K (.ref f_L_bad_ask) = true)
    {f_L_spoil_way : Addr} {od_L_spoil_way an_L_spoil_way : Option Addr} {sl_L_spoil_way : Array (Option Value)} {oc_L_spoil_way kV_L_spoil_way dc_L_spoil_way pm_L_spoil_way cd_L_spoil_way ct_L_spoil_way : Value}
    (a_L_spoil_way : PySem.W.nsIn K mainGlobals "_law_spoil_way" = some (some (.ref f_L_spoil_way)))
    (l_L_spoil_way : K.lookup f_L_spoil_way = some ⟨oc_L_spoil_way, od_L_spoil_way, .func (PySem.W.fnOf "_law_spoil_way" "_law_spoil_way" (defArgs s_L_spoil_way) (defBody s_L_spoil_way) (defScope s_L_spoil_way) .none kV_L_spoil_way dc_L_spoil_way pm_L_spoil_way an_L_spoil_way cd_L_spoil_way ct_L_spoil_way), sl_L_spoil_way⟩) (c_L_spoil_way : PySem.W.codeIn K cd_L_spoil_way "_law_spoil_way" = true) (k_L_spoil_way : PySem.W.keepIn K (.ref f_L_spoil_way) = true)
    {f_L_spoil_2 : Addr} {od_L_spoil_2 an_L_spoil_2 : Option Addr} {sl_L_spoil_2 : Array (Option Value)} {oc_L_spoil_2 kV_L_spoil_2 dc_L_spoil_2 pm_L_spoil_2 cd_L_spoil_2 ct_L_spoil_2 : Value}
    (a_L_spoil_2 : PySem.W.nsIn K mainGlobals "_law_spoil" = some (some (.ref f_L_spoil_2)))
    (l_L_spoil_2 : K.lookup f_L_spoil_2 = some ⟨oc_L_spoil_2, od_L_spoil_2, .func (PySem.W.fnOf "_law_spoil" "_law_spoil" (defArgs s_L_spoil_2) (defBody s_L_spoil_2) (defScope s_L_spoil_2) .none kV_L_spoil_2 dc_L_spoil_2 pm_L_spoil_2 an_L_spoil_2 cd_L_spoil_2 ct_L_spoil_2), sl_L_spoil_2⟩) (c_L_spoil_2 : PySem.W.codeIn K cd_L_spoil_2 "_law_spoil" = true) (k_L_spoil_2 : PySem.W.keepIn K (.ref f_L_spoil_2) = true)
    {f_aboveG : Addr} {od_aboveG an_aboveG : Option Addr} {sl_aboveG : Array (Option Value)} {oc_aboveG kV_aboveG dc_aboveG pm_aboveG cd_aboveG ct_aboveG : Value}
    (a_aboveG : PySem.W.nsIn K mainGlobals "above" = some (some (.ref f_aboveG)))
    (l_aboveG : K.lookup f_aboveG = some ⟨oc_aboveG, od_aboveG, .func (PySem.W.fnOf "above" "above" (defArgs s_aboveG) (defBody s_aboveG) (defScope s_aboveG) .none kV_aboveG dc_aboveG pm_aboveG an_aboveG cd_aboveG ct_aboveG), sl_aboveG⟩) (c_aboveG : PySem.W.codeIn K cd_aboveG "above" = true) (k_aboveG : PySem.W.keepIn K (.ref f_aboveG) = true)
    {f_depthG : Addr} {od_depthG an_depthG : Option Addr} {sl_depthG : Array (Option Value)} {oc_depthG kV_depthG dc_depthG pm_depthG cd_depthG ct_depthG : Value}
    (a_depthG : PySem.W.nsIn K mainGlobals "depth" = some (some (.ref f_depthG)))
    (l_depthG : K.lookup f_depthG = some ⟨oc_depthG, od_depthG, .func (PySem.W.fnOf "depth" "depth" (defArgs s_depthG) (defBody s_depthG) (defScope s_depthG) .none kV_depthG dc_depthG pm_depthG an_depthG cd_depthG ct_depthG), sl_depthG⟩) (c_depthG : PySem.W.codeIn K cd_depthG "depth" = true) (k_depthG : PySem.W.keepIn K (.ref f_depthG) = true)
    {f_look_at_numbersX : Addr} {od_look_at_numbersX an_look_at_numbersX : Option Addr} {sl_look_at_numbersX : Array (Option Value)} {oc_look_at_numbersX kV_look_at_numbersX dc_look_at_numbersX pm_look_at_numbersX cd_look_at_numbersX ct_look_at_numbersX : Value}
    (a_look_at_numbersX : PySem.W.nsIn K mainGlobals "look_at_numbers" = some (some (.ref f_look_at_numbersX)))
    (l_look_at_numbersX : K.lookup f_look_at_numbersX = some ⟨oc_look_at_numbersX, od_look_at_numbersX, .func (PySem.W.fnOf "look_at_numbers" "look_at_numbers" (defArgs s_look_at_numbersX) (defBody s_look_at_numbersX) (defScope s_look_at_numbersX) .none kV_look_at_numbersX dc_look_at_numbersX pm_look_at_numbersX an_look_at_numbersX cd_look_at_numbersX ct_look_at_numbersX), sl_look_at_numbersX⟩) (c_look_at_numbersX : PySem.W.codeIn K cd_look_at_numbersX "look_at_numbers" = true) (k_look_at_numbersX : PySem.W.keepIn K (.ref f_look_at_numbersX) = true)
    {f_inner : Addr} {od_inner an_inner : Option Addr} {sl_inner : Array (Option Value)} {oc_inner kV_inner dc_inner pm_inner cd_inner ct_inner : Value}
    (a_inner : PySem.W.nsIn K mainGlobals "inner" = some (some (.ref f_inner)))
    (l_inner : K.lookup f_inner = some ⟨oc_inner, od_inner, .func (PySem.W.fnOf "inner" "inner" (defArgs s_inner) (defBody s_inner) (defScope s_inner) .none kV_inner dc_inner pm_inner an_inner cd_inner ct_inner), sl_inner⟩) (c_inner : PySem.W.codeIn K cd_inner "inner" = true) (k_inner : PySem.W.keepIn K (.ref f_inner) = true)
    {f_look_at_kindsX : Addr} {od_look_at_kindsX an_look_at_kindsX : Option Addr} {sl_look_at_kindsX : Array (Option Value)} {oc_look_at_kindsX kV_look_at_kindsX dc_look_at_kindsX pm_look_at_kindsX cd_look_at_kindsX ct_look_at_kindsX : Value}
    (a_look_at_kindsX : PySem.W.nsIn K mainGlobals "look_at_kinds" = some (some (.ref f_look_at_kindsX)))
    (l_look_at_kindsX : K.lookup f_look_at_kindsX = some ⟨oc_look_at_kindsX, od_look_at_kindsX, .func (PySem.W.fnOf "look_at_kinds" "look_at_kinds" (defArgs s_look_at_kindsX) (defBody s_look_at_kindsX) (defScope s_look_at_kindsX) .none kV_look_at_kindsX dc_look_at_kindsX pm_look_at_kindsX an_look_at_kindsX cd_look_at_kindsX ct_look_at_kindsX), sl_look_at_kindsX⟩) (c_look_at_kindsX : PySem.W.codeIn K cd_look_at_kindsX "look_at_kinds" = true) (k_look_at_kindsX : PySem.W.keepIn K (.ref f_look_at_kindsX) = true)
    {f_is_name : Addr} {od_is_name an_is_name : Option Addr} {sl_is_name : Array (Option Value)} {oc_is_name kV_is_name dc_is_name pm_is_name cd_is_name ct_is_name : Value}
    (a_is_name : PySem.W.nsIn K mainGlobals "is_name" = some (some (.ref f_is_name)))
    (l_is_name : K.lookup f_is_name = some ⟨oc_is_name, od_is_name, .func (PySem.W.fnOf "is_name" "is_name" (defArgs s_is_name) (defBody s_is_name) (defScope s_is_name) .none kV_is_name dc_is_name pm_is_name an_is_name cd_is_name ct_is_name), sl_is_name⟩) (c_is_name : PySem.W.codeIn K cd_is_name "is_name" = true) (k_is_name : PySem.W.keepIn K (.ref f_is_name) = true)
    {f_look_at_namesX : Addr} {od_look_at_namesX an_look_at_namesX : Option Addr} {sl_look_at_namesX : Array (Option Value)} {oc_look_at_namesX kV_look_at_namesX dc_look_at_namesX pm_look_at_namesX cd_look_at_namesX ct_look_at_namesX : Value}
    (a_look_at_namesX : PySem.W.nsIn K mainGlobals "look_at_names" = some (some (.ref f_look_at_namesX)))
    (l_look_at_namesX : K.lookup f_look_at_namesX = some ⟨oc_look_at_namesX, od_look_at_namesX, .func (PySem.W.fnOf "look_at_names" "look_at_names" (defArgs s_look_at_namesX) (defBody s_look_at_namesX) (defScope s_look_at_namesX) .none kV_look_at_namesX dc_look_at_namesX pm_look_at_namesX an_look_at_namesX cd_look_at_namesX ct_look_at_namesX), sl_look_at_namesX⟩) (c_look_at_namesX : PySem.W.codeIn K cd_look_at_namesX "look_at_names" = true) (k_look_at_namesX : PySem.W.keepIn K (.ref f_look_at_namesX) = true)
    {f_in_boundsG : Addr} {od_in_boundsG an_in_boundsG : Option Addr} {sl_in_boundsG : Array (Option Value)} {oc_in_boundsG kV_in_boundsG dc_in_boundsG pm_in_boundsG cd_in_boundsG ct_in_boundsG : Value}
    (a_in_boundsG : PySem.W.nsIn K mainGlobals "in_bounds" = some (some (.ref f_in_boundsG)))
    (l_in_boundsG : K.lookup f_in_boundsG = some ⟨oc_in_boundsG, od_in_boundsG, .func (PySem.W.fnOf "in_bounds" "in_bounds" (defArgs s_in_boundsG) (defBody s_in_boundsG) (defScope s_in_boundsG) .none kV_in_boundsG dc_in_boundsG pm_in_boundsG an_in_boundsG cd_in_boundsG ct_in_boundsG), sl_in_boundsG⟩) (c_in_boundsG : PySem.W.codeIn K cd_in_boundsG "in_bounds" = true) (k_in_boundsG : PySem.W.keepIn K (.ref f_in_boundsG) = true)
    {f_look_at_boxesX : Addr} {od_look_at_boxesX an_look_at_boxesX : Option Addr} {sl_look_at_boxesX : Array (Option Value)} {oc_look_at_boxesX kV_look_at_boxesX dc_look_at_boxesX pm_look_at_boxesX cd_look_at_boxesX ct_look_at_boxesX : Value}
    (a_look_at_boxesX : PySem.W.nsIn K mainGlobals "look_at_boxes" = some (some (.ref f_look_at_boxesX)))
    (l_look_at_boxesX : K.lookup f_look_at_boxesX = some ⟨oc_look_at_boxesX, od_look_at_boxesX, .func (PySem.W.fnOf "look_at_boxes" "look_at_boxes" (defArgs s_look_at_boxesX) (defBody s_look_at_boxesX) (defScope s_look_at_boxesX) .none kV_look_at_boxesX dc_look_at_boxesX pm_look_at_boxesX an_look_at_boxesX cd_look_at_boxesX ct_look_at_boxesX), sl_look_at_boxesX⟩) (c_look_at_boxesX : PySem.W.codeIn K cd_look_at_boxesX "look_at_boxes" = true) (k_look_at_boxesX : PySem.W.keepIn K (.ref f_look_at_boxesX) = true)
    {f_right_termG : Addr} {od_right_termG an_right_termG : Option Addr} {sl_right_termG : Array (Option Value)} {oc_right_termG kV_right_termG dc_right_termG pm_right_termG cd_right_termG ct_right_termG : Value}
    (a_right_termG : PySem.W.nsIn K mainGlobals "right_term" = some (some (.ref f_right_termG)))
    (l_right_termG : K.lookup f_right_termG = some ⟨oc_right_termG, od_right_termG, .func (PySem.W.fnOf "right_term" "right_term" (defArgs s_right_termG) (defBody s_right_termG) (defScope s_right_termG) .none kV_right_termG dc_right_termG pm_right_termG an_right_termG cd_right_termG ct_right_termG), sl_right_termG⟩) (c_right_termG : PySem.W.codeIn K cd_right_termG "right_term" = true) (k_right_termG : PySem.W.keepIn K (.ref f_right_termG) = true)
    {f_right_deedG : Addr} {od_right_deedG an_right_deedG : Option Addr} {sl_right_deedG : Array (Option Value)} {oc_right_deedG kV_right_deedG dc_right_deedG pm_right_deedG cd_right_deedG ct_right_deedG : Value}
    (a_right_deedG : PySem.W.nsIn K mainGlobals "right_deed" = some (some (.ref f_right_deedG)))
    (l_right_deedG : K.lookup f_right_deedG = some ⟨oc_right_deedG, od_right_deedG, .func (PySem.W.fnOf "right_deed" "right_deed" (defArgs s_right_deedG) (defBody s_right_deedG) (defScope s_right_deedG) .none kV_right_deedG dc_right_deedG pm_right_deedG an_right_deedG cd_right_deedG ct_right_deedG), sl_right_deedG⟩) (c_right_deedG : PySem.W.codeIn K cd_right_deedG "right_deed" = true) (k_right_deedG : PySem.W.keepIn K (.ref f_right_deedG) = true)
    {f_look_at_deedsX : Addr} {od_look_at_deedsX an_look_at_deedsX : Option Addr} {sl_look_at_deedsX : Array (Option Value)} {oc_look_at_deedsX kV_look_at_deedsX dc_look_at_deedsX pm_look_at_deedsX cd_look_at_deedsX ct_look_at_deedsX : Value}
    (a_look_at_deedsX : PySem.W.nsIn K mainGlobals "look_at_deeds" = some (some (.ref f_look_at_deedsX)))
    (l_look_at_deedsX : K.lookup f_look_at_deedsX = some ⟨oc_look_at_deedsX, od_look_at_deedsX, .func (PySem.W.fnOf "look_at_deeds" "look_at_deeds" (defArgs s_look_at_deedsX) (defBody s_look_at_deedsX) (defScope s_look_at_deedsX) .none kV_look_at_deedsX dc_look_at_deedsX pm_look_at_deedsX an_look_at_deedsX cd_look_at_deedsX ct_look_at_deedsX), sl_look_at_deedsX⟩) (c_look_at_deedsX : PySem.W.codeIn K cd_look_at_deedsX "look_at_deeds" = true) (k_look_at_deedsX : PySem.W.keepIn K (.ref f_look_at_deedsX) = true)
    {f_right_askG : Addr} {od_right_askG an_right_askG : Option Addr} {sl_right_askG : Array (Option Value)} {oc_right_askG kV_right_askG dc_right_askG pm_right_askG cd_right_askG ct_right_askG : Value}
    (a_right_askG : PySem.W.nsIn K mainGlobals "right_ask" = some (some (.ref f_right_askG)))
    (l_right_askG : K.lookup f_right_askG = some ⟨oc_right_askG, od_right_askG, .func (PySem.W.fnOf "right_ask" "right_ask" (defArgs s_right_askG) (defBody s_right_askG) (defScope s_right_askG) .none kV_right_askG dc_right_askG pm_right_askG an_right_askG cd_right_askG ct_right_askG), sl_right_askG⟩) (c_right_askG : PySem.W.codeIn K cd_right_askG "right_ask" = true) (k_right_askG : PySem.W.keepIn K (.ref f_right_askG) = true)
    {f_look_at_waysX : Addr} {od_look_at_waysX an_look_at_waysX : Option Addr} {sl_look_at_waysX : Array (Option Value)} {oc_look_at_waysX kV_look_at_waysX dc_look_at_waysX pm_look_at_waysX cd_look_at_waysX ct_look_at_waysX : Value}
    (a_look_at_waysX : PySem.W.nsIn K mainGlobals "look_at_ways" = some (some (.ref f_look_at_waysX)))
    (l_look_at_waysX : K.lookup f_look_at_waysX = some ⟨oc_look_at_waysX, od_look_at_waysX, .func (PySem.W.fnOf "look_at_ways" "look_at_ways" (defArgs s_look_at_waysX) (defBody s_look_at_waysX) (defScope s_look_at_waysX) .none kV_look_at_waysX dc_look_at_waysX pm_look_at_waysX an_look_at_waysX cd_look_at_waysX ct_look_at_waysX), sl_look_at_waysX⟩) (c_look_at_waysX : PySem.W.codeIn K cd_look_at_waysX "look_at_ways" = true) (k_look_at_waysX : PySem.W.keepIn K (.ref f_look_at_waysX) = true)
    {f_lookedX : Addr} {od_lookedX an_lookedX : Option Addr} {sl_lookedX : Array (Option Value)} {oc_lookedX kV_lookedX dc_lookedX pm_lookedX cd_lookedX ct_lookedX : Value}
    (a_lookedX : PySem.W.nsIn K mainGlobals "looked" = some (some (.ref f_lookedX)))
    (l_lookedX : K.lookup f_lookedX = some ⟨oc_lookedX, od_lookedX, .func (PySem.W.fnOf "looked" "looked" (defArgs s_lookedX) (defBody s_lookedX) (defScope s_lookedX) .none kV_lookedX dc_lookedX pm_lookedX an_lookedX cd_lookedX ct_lookedX), sl_lookedX⟩) (c_lookedX : PySem.W.codeIn K cd_lookedX "looked" = true) (k_lookedX : PySem.W.keepIn K (.ref f_lookedX) = true)
    {f_L_refusal : Addr} {od_L_refusal an_L_refusal : Option Addr} {sl_L_refusal : Array (Option Value)} {oc_L_refusal kV_L_refusal dc_L_refusal pm_L_refusal cd_L_refusal ct_L_refusal : Value}
    (a_L_refusal : PySem.W.nsIn K mainGlobals "_law_refusal" = some (some (.ref f_L_refusal)))
    (l_L_refusal : K.lookup f_L_refusal = some ⟨oc_L_refusal, od_L_refusal, .func (PySem.W.fnOf "_law_refusal" "_law_refusal" (defArgs s_L_refusal) (defBody s_L_refusal) (defScope s_L_refusal) .none kV_L_refusal dc_L_refusal pm_L_refusal an_L_refusal cd_L_refusal ct_L_refusal), sl_L_refusal⟩) (c_L_refusal : PySem.W.codeIn K cd_L_refusal "_law_refusal" = true) (k_L_refusal : PySem.W.keepIn K (.ref f_L_refusal) = true)
    {f_L_bases_2 : Addr} {od_L_bases_2 an_L_bases_2 : Option Addr} {sl_L_bases_2 : Array (Option Value)} {oc_L_bases_2 kV_L_bases_2 dc_L_bases_2 pm_L_bases_2 cd_L_bases_2 ct_L_bases_2 : Value}
    (a_L_bases_2 : PySem.W.nsIn K mainGlobals "_law_bases" = some (some (.ref f_L_bases_2)))
    (l_L_bases_2 : K.lookup f_L_bases_2 = some ⟨oc_L_bases_2, od_L_bases_2, .func (PySem.W.fnOf "_law_bases" "_law_bases" (defArgs s_L_bases_2) (defBody s_L_bases_2) (defScope s_L_bases_2) .none kV_L_bases_2 dc_L_bases_2 pm_L_bases_2 an_L_bases_2 cd_L_bases_2 ct_L_bases_2), sl_L_bases_2⟩) (c_L_bases_2 : PySem.W.codeIn K cd_L_bases_2 "_law_bases" = true) (k_L_bases_2 : PySem.W.keepIn K (.ref f_L_bases_2) = true)
    {f_law_57 : Addr} {od_law_57 an_law_57 : Option Addr} {sl_law_57 : Array (Option Value)} {oc_law_57 kV_law_57 dc_law_57 pm_law_57 cd_law_57 ct_law_57 : Value}
    (a_law_57 : PySem.W.nsIn K mainGlobals "law" = some (some (.ref f_law_57)))
    (l_law_57 : K.lookup f_law_57 = some ⟨oc_law_57, od_law_57, .func (PySem.W.fnOf "law" "law" (defArgs s_law_57) (defBody s_law_57) (defScope s_law_57) .none kV_law_57 dc_law_57 pm_law_57 an_law_57 cd_law_57 ct_law_57), sl_law_57⟩) (c_law_57 : PySem.W.codeIn K cd_law_57 "law" = true) (k_law_57 : PySem.W.keepIn K (.ref f_law_57) = true)
    (z_ValueError : PySem.W.nsIn K mainGlobals "ValueError" = some none) (z_int : PySem.W.nsIn K mainGlobals "int" = some none) (z_isinstance : PySem.W.nsIn K mainGlobals "isinstance" = some none) (z_len : PySem.W.nsIn K mainGlobals "len" = some none) (z_list : PySem.W.nsIn K mainGlobals "list" = some none) (z_range : PySem.W.nsIn K mainGlobals "range" = some none) (z_sorted : PySem.W.nsIn K mainGlobals "sorted" = some none) (z_str : PySem.W.nsIn K mainGlobals "str" = some none) (z_tuple : PySem.W.nsIn K mainGlobals "tuple" = some none)
    {t_DEEPEST : Tok} (g_DEEPEST : PySem.W.nsIn K mainGlobals "DEEPEST" = some (some (.int 12 t_DEEPEST)))
    {t_FIGURES : Tok} (g_FIGURES : PySem.W.nsIn K mainGlobals "FIGURES" = some (some (.str "0123456789" t_FIGURES)))
    {t_LETTERS : Tok} (g_LETTERS : PySem.W.nsIn K mainGlobals "LETTERS" = some (some (.str "abcdefghijklmnopqrstuvwxyz" t_LETTERS)))
    {a_WORDS : Addr} {od_WORDS : Option Addr} {n_WORDS : Nat} {sl_WORDS : Array (Option Value)} {t_WORDS_0 t_WORDS_1 t_WORDS_2 t_WORDS_3 t_WORDS_4 t_WORDS_5 t_WORDS_6 t_WORDS_7 t_WORDS_8 t_WORDS_9 t_WORDS_10 t_WORDS_11 t_WORDS_12 t_WORDS_13 t_WORDS_14 t_WORDS_15 t_WORDS_16 t_WORDS_17 t_WORDS_18 : Tok} (g_WORDS : PySem.W.nsIn K mainGlobals "WORDS" = some (some (.ref a_WORDS))) (l_WORDS : K.lookup a_WORDS = some ⟨.type "tuple", od_WORDS, .seq #[.str "all" t_WORDS_0, .str "and" t_WORDS_1, .str "box" t_WORDS_2, .str "call" t_WORDS_3, .str "do" t_WORDS_4, .str "far" t_WORDS_5, .str "if" t_WORDS_6, .str "in" t_WORDS_7, .str "leaf" t_WORDS_8, .str "near" t_WORDS_9, .str "on" t_WORDS_10, .str "one" t_WORDS_11, .str "open" t_WORDS_12, .str "out" t_WORDS_13, .str "put" t_WORDS_14, .str "say" t_WORDS_15, .str "shut" t_WORDS_16, .str "then" t_WORDS_17, .str "to" t_WORDS_18] n_WORDS, sl_WORDS⟩) :
    ∃ fd : FuncData, (∀ (s : Shared) (v : Value), BindsTo s fd ⟨[v], []⟩ [("script", v)]) ∧ ∀ base : Heap, K.In base → base.Ns mainGlobals mg → FnOk l.prog w K mg base CX0 7 fa fd ["script"] (spTop K [] 63) := by
  have e := hfa.symm.trans (PySem.W.mg_of X G a_law_57)
  cases e
  have hC : CsOk K ⟨[⟨"Tree", C_Tree, fieldsOf "Tree"⟩, ⟨"Chart", C_Chart, fieldsOf "Chart"⟩], ([] : List ((Addr × Addr) × Str)).map fun p => (p.1.2, p.2), [("BadTree", C_BadTree), ("BadName", C_BadName), ("BadBox", C_BadBox), ("BadDeed", C_BadDeed), ("BadWay", C_BadWay)], some w⟩ := fun ci m => by
    have m : ci ∈ ([⟨"Tree", C_Tree, fieldsOf "Tree"⟩, ⟨"Chart", C_Chart, fieldsOf "Chart"⟩] : List CI) := m
    simp only [List.mem_cons, List.not_mem_nil, or_false] at m
    rcases m with rfl | rfl
    · refine ⟨⟨pg_Tree, hd_Tree, po_Tree, sa_Tree⟩, fun n hn => ?_⟩
      have hn : n ∈ (["kinds", "elders", "starts"] : List Str) := hn
      simp only [List.mem_cons, List.not_mem_nil, or_false] at hn
      rcases hn with rfl | rfl | rfl
      · exact n_Tree_kinds
      · exact n_Tree_elders
      · exact n_Tree_starts
    · refine ⟨⟨pg_Chart, hd_Chart, po_Chart, sa_Chart⟩, fun n hn => ?_⟩
      have hn : n ∈ (["boxes", "names", "tree", "ins", "outs", "ways"] : List Str) := hn
      simp only [List.mem_cons, List.not_mem_nil, or_false] at hn
      rcases hn with rfl | rfl | rfl | rfl | rfl | rfl
      · exact n_Chart_boxes
      · exact n_Chart_names
      · exact n_Chart_tree
      · exact n_Chart_ins
      · exact n_Chart_outs
      · exact n_Chart_ways
  have hcf : ∀ ci ∈ (⟨[⟨"Tree", C_Tree, fieldsOf "Tree"⟩, ⟨"Chart", C_Chart, fieldsOf "Chart"⟩], ([] : List ((Addr × Addr) × Str)).map fun p => (p.1.2, p.2), [("BadTree", C_BadTree), ("BadName", C_BadName), ("BadBox", C_BadBox), ("BadDeed", C_BadDeed), ("BadWay", C_BadWay)], some w⟩ : Cs), ci.fields = fieldsOf ci.name := fun ci m => by
    have m : ci ∈ ([⟨"Tree", C_Tree, fieldsOf "Tree"⟩, ⟨"Chart", C_Chart, fieldsOf "Chart"⟩] : List CI) := m
    simp only [List.mem_cons, List.not_mem_nil, or_false] at m
    rcases m with rfl | rfl <;> rfl
  have fr : Free mg frees := fun n m => by
    simp only [frees, List.mem_cons, List.not_mem_nil, or_false] at m
    rcases m with rfl | rfl | rfl | rfl | rfl | rfl | rfl | rfl | rfl
    · exact PySem.W.mg_none_of X G z_ValueError
    · exact PySem.W.mg_none_of X G z_int
    · exact PySem.W.mg_none_of X G z_isinstance
    · exact PySem.W.mg_none_of X G z_len
    · exact PySem.W.mg_none_of X G z_list
    · exact PySem.W.mg_none_of X G z_range
    · exact PySem.W.mg_none_of X G z_sorted
    · exact PySem.W.mg_none_of X G z_str
    · exact PySem.W.mg_none_of X G z_tuple
  have gc_DEEPEST : ∃ t, mg "DEEPEST" = some (.int 12 t) := ⟨_, PySem.W.mg_of X G g_DEEPEST⟩
  have gc_FIGURES : ∃ t, mg "FIGURES" = some (.str "0123456789" t) := ⟨_, PySem.W.mg_of X G g_FIGURES⟩
  have gc_LETTERS : ∃ t, mg "LETTERS" = some (.str "abcdefghijklmnopqrstuvwxyz" t) := ⟨_, PySem.W.mg_of X G g_LETTERS⟩
  have gc_WORDS : ∃ a, mg "WORDS" = some (.ref a) ∧ TupS K a ["all", "and", "box", "call", "do", "far", "if", "in", "leaf", "near", "on", "one", "open", "out", "put", "say", "shut", "then", "to"] := ⟨_, PySem.W.mg_of X G g_WORDS, _, _, _, l_WORDS, rfl, rfl, by rw [sizeLine_eq]; exact (by decide : (19 : Nat) ≤ 16777216), .cons ⟨_, rfl⟩ (.cons ⟨_, rfl⟩ (.cons ⟨_, rfl⟩ (.cons ⟨_, rfl⟩ (.cons ⟨_, rfl⟩ (.cons ⟨_, rfl⟩ (.cons ⟨_, rfl⟩ (.cons ⟨_, rfl⟩ (.cons ⟨_, rfl⟩ (.cons ⟨_, rfl⟩ (.cons ⟨_, rfl⟩ (.cons ⟨_, rfl⟩ (.cons ⟨_, rfl⟩ (.cons ⟨_, rfl⟩ (.cons ⟨_, rfl⟩ (.cons ⟨_, rfl⟩ (.cons ⟨_, rfl⟩ (.cons ⟨_, rfl⟩ (.cons ⟨_, rfl⟩ (.nil)))))))))))))))))))⟩
  have F_L_above := fun_mk (st := s_L_above) l_L_above c_L_above k_L_above
  have b_L_above := F_L_above.binds (ps := ["elders", "at"]) fun _ _ _ _ _ _ us hl => match us, hl with | [_, _], _ => rfl
  have F_L_cell_at := fun_mk (st := s_L_cell_at) l_L_cell_at c_L_cell_at k_L_cell_at
  have b_L_cell_at := F_L_cell_at.binds (ps := ["script", "k"]) fun _ _ _ _ _ _ us hl => match us, hl with | [_, _], _ => rfl
  have F_L_elders_6 := fun_mk (st := s_L_elders_6) l_L_elders_6 c_L_elders_6 k_L_elders_6
  have b_L_elders_6 := F_L_elders_6.binds (ps := ["script", "many"]) fun _ _ _ _ _ _ us hl => match us, hl with | [_, _], _ => rfl
  have F_L_kinds_3 := fun_mk (st := s_L_kinds_3) l_L_kinds_3 c_L_kinds_3 k_L_kinds_3
  have b_L_kinds_3 := F_L_kinds_3.binds (ps := ["script", "elders"]) fun _ _ _ _ _ _ us hl => match us, hl with | [_, _], _ => rfl
  have F_L_names := fun_mk (st := s_L_names) l_L_names c_L_names k_L_names
  have b_L_names := F_L_names.binds (ps := ["cell", "many"]) fun _ _ _ _ _ _ us hl => match us, hl with | [_, _], _ => rfl
  have F_L_far_2 := fun_mk (st := s_L_far_2) l_L_far_2 c_L_far_2 k_L_far_2
  have b_L_far_2 := F_L_far_2.binds (ps := ["cell"]) fun _ _ _ _ _ _ us hl => match us, hl with | [_], _ => rfl
  have F_L_term_3 := fun_mk (st := s_L_term_3) l_L_term_3 c_L_term_3 k_L_term_3
  have b_L_term_3 := F_L_term_3.binds (ps := ["cell", "many"]) fun _ _ _ _ _ _ us hl => match us, hl with | [_, _], _ => rfl
  have F_L_deed_2 := fun_mk (st := s_L_deed_2) l_L_deed_2 c_L_deed_2 k_L_deed_2
  have b_L_deed_2 := F_L_deed_2.binds (ps := ["cell", "many", "name"]) fun _ _ _ _ _ _ us hl => match us, hl with | [_, _, _], _ => rfl
  have F_L_rows_3 := fun_mk (st := s_L_rows_3) l_L_rows_3 c_L_rows_3 k_L_rows_3
  have b_L_rows_3 := F_L_rows_3.binds (ps := ["script", "many", "names", "by"]) fun _ _ _ _ _ _ us hl => match us, hl with | [_, _, _, _], _ => rfl
  have F_L_ask_3 := fun_mk (st := s_L_ask_3) l_L_ask_3 c_L_ask_3 k_L_ask_3
  have b_L_ask_3 := F_L_ask_3.binds (ps := ["cell", "many", "moods"]) fun _ _ _ _ _ _ us hl => match us, hl with | [_, _, _], _ => rfl
  have F_L_way_2 := fun_mk (st := s_L_way_2) l_L_way_2 c_L_way_2 k_L_way_2
  have b_L_way_2 := F_L_way_2.binds (ps := ["script", "at", "source", "many", "moods", "name"]) fun _ _ _ _ _ _ us hl => match us, hl with | [_, _, _, _, _, _], _ => rfl
  have F_L_partsM := fun_mk (st := s_L_partsM) l_L_partsM c_L_partsM k_L_partsM
  have b_L_partsM := F_L_partsM.binds (ps := ["script"]) fun _ _ _ _ _ _ us hl => match us, hl with | [_], _ => rfl
  have F_Tree_init := fun_mk (st := s_Tree_init) l_Tree_init c_Tree_init k_Tree_init
  have b_Tree_init := F_Tree_init.binds (ps := ["self", "kinds", "elders", "starts"]) fun _ _ _ _ _ _ us hl => match us, hl with | [_, _, _, _], _ => rfl
  have F_Chart_init := fun_mk (st := s_Chart_init) l_Chart_init c_Chart_init k_Chart_init
  have b_Chart_init := F_Chart_init.binds (ps := ["self", "boxes", "names", "tree", "ins", "outs", "ways"]) fun _ _ _ _ _ _ us hl => match us, hl with | [_, _, _, _, _, _, _], _ => rfl
  have F_L_chart_8 := fun_mk (st := s_L_chart_8) l_L_chart_8 c_L_chart_8 k_L_chart_8
  have b_L_chart_8 := F_L_chart_8.binds (ps := ["parts"]) fun _ _ _ _ _ _ us hl => match us, hl with | [_], _ => rfl
  have F_L_spoil_tree := fun_mk (st := s_L_spoil_tree) l_L_spoil_tree c_L_spoil_tree k_L_spoil_tree
  have b_L_spoil_tree := F_L_spoil_tree.binds (ps := ["parts", "cell"]) fun _ _ _ _ _ _ us hl => match us, hl with | [_, _], _ => rfl
  have F_L_bad_name := fun_mk (st := s_L_bad_name) l_L_bad_name c_L_bad_name k_L_bad_name
  have b_L_bad_name := F_L_bad_name.binds (ps := ["cell", "name"]) fun _ _ _ _ _ _ us hl => match us, hl with | [_, _], _ => rfl
  have F_L_spoil_name := fun_mk (st := s_L_spoil_name) l_L_spoil_name c_L_spoil_name k_L_spoil_name
  have b_L_spoil_name := F_L_spoil_name.binds (ps := ["parts", "cell"]) fun _ _ _ _ _ _ us hl => match us, hl with | [_, _], _ => rfl
  have F_L_spoil_box := fun_mk (st := s_L_spoil_box) l_L_spoil_box c_L_spoil_box k_L_spoil_box
  have b_L_spoil_box := F_L_spoil_box.binds (ps := ["parts", "cell"]) fun _ _ _ _ _ _ us hl => match us, hl with | [_, _], _ => rfl
  have F_L_bad_term := fun_mk (st := s_L_bad_term) l_L_bad_term c_L_bad_term k_L_bad_term
  have b_L_bad_term := F_L_bad_term.binds (ps := ["cell", "many"]) fun _ _ _ _ _ _ us hl => match us, hl with | [_, _], _ => rfl
  have F_L_bad_deed := fun_mk (st := s_L_bad_deed) l_L_bad_deed c_L_bad_deed k_L_bad_deed
  have b_L_bad_deed := F_L_bad_deed.binds (ps := ["cell", "many"]) fun _ _ _ _ _ _ us hl => match us, hl with | [_, _], _ => rfl
  have F_L_put_in := fun_mk (st := s_L_put_in) l_L_put_in c_L_put_in k_L_put_in
  have b_L_put_in := F_L_put_in.binds (ps := ["row", "cell", "thing"]) fun _ _ _ _ _ _ us hl => match us, hl with | [_, _, _], _ => rfl
  have F_L_spoil_deed := fun_mk (st := s_L_spoil_deed) l_L_spoil_deed c_L_spoil_deed k_L_spoil_deed
  have b_L_spoil_deed := F_L_spoil_deed.binds (ps := ["parts", "cell"]) fun _ _ _ _ _ _ us hl => match us, hl with | [_, _], _ => rfl
  have F_L_bad_ask := fun_mk (st := s_L_bad_ask) l_L_bad_ask c_L_bad_ask k_L_bad_ask
  have b_L_bad_ask := F_L_bad_ask.binds (ps := ["cell", "many", "moods"]) fun _ _ _ _ _ _ us hl => match us, hl with | [_, _, _], _ => rfl
  have F_L_spoil_way := fun_mk (st := s_L_spoil_way) l_L_spoil_way c_L_spoil_way k_L_spoil_way
  have b_L_spoil_way := F_L_spoil_way.binds (ps := ["parts", "cell"]) fun _ _ _ _ _ _ us hl => match us, hl with | [_, _], _ => rfl
  have F_L_spoil_2 := fun_mk (st := s_L_spoil_2) l_L_spoil_2 c_L_spoil_2 k_L_spoil_2
  have b_L_spoil_2 := F_L_spoil_2.binds (ps := ["parts", "which", "cell"]) fun _ _ _ _ _ _ us hl => match us, hl with | [_, _, _], _ => rfl
  have F_aboveG := fun_mk (st := s_aboveG) l_aboveG c_aboveG k_aboveG
  have b_aboveG := F_aboveG.binds (ps := ["tree", "mood"]) fun _ _ _ _ _ _ us hl => match us, hl with | [_, _], _ => rfl
  have F_depthG := fun_mk (st := s_depthG) l_depthG c_depthG k_depthG
  have b_depthG := F_depthG.binds (ps := ["tree", "mood"]) fun _ _ _ _ _ _ us hl => match us, hl with | [_, _], _ => rfl
  have F_look_at_numbersX := fun_mk (st := s_look_at_numbersX) l_look_at_numbersX c_look_at_numbersX k_look_at_numbersX
  have b_look_at_numbersX := F_look_at_numbersX.binds (ps := ["chart"]) fun _ _ _ _ _ _ us hl => match us, hl with | [_], _ => rfl
  have F_inner := fun_mk (st := s_inner) l_inner c_inner k_inner
  have b_inner := F_inner.binds (ps := ["tree", "mood"]) fun _ _ _ _ _ _ us hl => match us, hl with | [_, _], _ => rfl
  have F_look_at_kindsX := fun_mk (st := s_look_at_kindsX) l_look_at_kindsX c_look_at_kindsX k_look_at_kindsX
  have b_look_at_kindsX := F_look_at_kindsX.binds (ps := ["tree"]) fun _ _ _ _ _ _ us hl => match us, hl with | [_], _ => rfl
  have F_is_name := fun_mk (st := s_is_name) l_is_name c_is_name k_is_name
  have b_is_name := F_is_name.binds (ps := ["text"]) fun _ _ _ _ _ _ us hl => match us, hl with | [_], _ => rfl
  have F_look_at_namesX := fun_mk (st := s_look_at_namesX) l_look_at_namesX c_look_at_namesX k_look_at_namesX
  have b_look_at_namesX := F_look_at_namesX.binds (ps := ["chart"]) fun _ _ _ _ _ _ us hl => match us, hl with | [_], _ => rfl
  have F_in_boundsG := fun_mk (st := s_in_boundsG) l_in_boundsG c_in_boundsG k_in_boundsG
  have b_in_boundsG := F_in_boundsG.binds (ps := ["number"]) fun _ _ _ _ _ _ us hl => match us, hl with | [_], _ => rfl
  have F_look_at_boxesX := fun_mk (st := s_look_at_boxesX) l_look_at_boxesX c_look_at_boxesX k_look_at_boxesX
  have b_look_at_boxesX := F_look_at_boxesX.binds (ps := ["chart"]) fun _ _ _ _ _ _ us hl => match us, hl with | [_], _ => rfl
  have F_right_termG := fun_mk (st := s_right_termG) l_right_termG c_right_termG k_right_termG
  have b_right_termG := F_right_termG.binds (ps := ["chart", "term"]) fun _ _ _ _ _ _ us hl => match us, hl with | [_, _], _ => rfl
  have F_right_deedG := fun_mk (st := s_right_deedG) l_right_deedG c_right_deedG k_right_deedG
  have b_right_deedG := F_right_deedG.binds (ps := ["chart", "deed"]) fun _ _ _ _ _ _ us hl => match us, hl with | [_, _], _ => rfl
  have F_look_at_deedsX := fun_mk (st := s_look_at_deedsX) l_look_at_deedsX c_look_at_deedsX k_look_at_deedsX
  have b_look_at_deedsX := F_look_at_deedsX.binds (ps := ["chart"]) fun _ _ _ _ _ _ us hl => match us, hl with | [_], _ => rfl
  have F_right_askG := fun_mk (st := s_right_askG) l_right_askG c_right_askG k_right_askG
  have b_right_askG := F_right_askG.binds (ps := ["chart", "ask"]) fun _ _ _ _ _ _ us hl => match us, hl with | [_, _], _ => rfl
  have F_look_at_waysX := fun_mk (st := s_look_at_waysX) l_look_at_waysX c_look_at_waysX k_look_at_waysX
  have b_look_at_waysX := F_look_at_waysX.binds (ps := ["chart"]) fun _ _ _ _ _ _ us hl => match us, hl with | [_], _ => rfl
  have F_lookedX := fun_mk (st := s_lookedX) l_lookedX c_lookedX k_lookedX
  have b_lookedX := F_lookedX.binds (ps := ["chart"]) fun _ _ _ _ _ _ us hl => match us, hl with | [_], _ => rfl
  have F_L_refusal := fun_mk (st := s_L_refusal) l_L_refusal c_L_refusal k_L_refusal
  have b_L_refusal := F_L_refusal.binds (ps := ["chart"]) fun _ _ _ _ _ _ us hl => match us, hl with | [_], _ => rfl
  have F_L_bases_2 := fun_mk (st := s_L_bases_2) l_L_bases_2 c_L_bases_2 k_L_bases_2
  have b_L_bases_2 := F_L_bases_2.binds (ps := ["chart"]) fun _ _ _ _ _ _ us hl => match us, hl with | [_], _ => rfl
  have F_law := fun_mk (st := s_law_57) l_law_57 c_law_57 k_law_57
  refine ⟨PySem.W.fnOf "law" "law" (defArgs s_law_57) (defBody s_law_57) (defScope s_law_57) .none kV_law_57 dc_law_57 pm_law_57 an_law_57 cd_law_57 ct_law_57, fun s v => .of_eq rfl, fun base _ _ => ?_⟩
  have KX_BadTree : KnX K mg ⟨[⟨"Tree", C_Tree, fieldsOf "Tree"⟩, ⟨"Chart", C_Chart, fieldsOf "Chart"⟩], ([] : List ((Addr × Addr) × Str)).map fun p => (p.1.2, p.2), [("BadTree", C_BadTree), ("BadName", C_BadName), ("BadBox", C_BadBox), ("BadDeed", C_BadDeed), ("BadWay", C_BadWay)], some w⟩ "BadTree" := ⟨C_BadTree, PySem.W.mg_of X G aC_BadTree, (show (("BadTree" : Str), C_BadTree) ∈ ([("BadTree", C_BadTree), ("BadName", C_BadName), ("BadBox", C_BadBox), ("BadDeed", C_BadDeed), ("BadWay", C_BadWay)] : List (Str × Addr)) by simp), xk_BadTree, xe_BadTree, xs_BadTree, xt_BadTree⟩
  have KX_BadName : KnX K mg ⟨[⟨"Tree", C_Tree, fieldsOf "Tree"⟩, ⟨"Chart", C_Chart, fieldsOf "Chart"⟩], ([] : List ((Addr × Addr) × Str)).map fun p => (p.1.2, p.2), [("BadTree", C_BadTree), ("BadName", C_BadName), ("BadBox", C_BadBox), ("BadDeed", C_BadDeed), ("BadWay", C_BadWay)], some w⟩ "BadName" := ⟨C_BadName, PySem.W.mg_of X G aC_BadName, (show (("BadName" : Str), C_BadName) ∈ ([("BadTree", C_BadTree), ("BadName", C_BadName), ("BadBox", C_BadBox), ("BadDeed", C_BadDeed), ("BadWay", C_BadWay)] : List (Str × Addr)) by simp), xk_BadName, xe_BadName, xs_BadName, xt_BadName⟩
  have KX_BadBox : KnX K mg ⟨[⟨"Tree", C_Tree, fieldsOf "Tree"⟩, ⟨"Chart", C_Chart, fieldsOf "Chart"⟩], ([] : List ((Addr × Addr) × Str)).map fun p => (p.1.2, p.2), [("BadTree", C_BadTree), ("BadName", C_BadName), ("BadBox", C_BadBox), ("BadDeed", C_BadDeed), ("BadWay", C_BadWay)], some w⟩ "BadBox" := ⟨C_BadBox, PySem.W.mg_of X G aC_BadBox, (show (("BadBox" : Str), C_BadBox) ∈ ([("BadTree", C_BadTree), ("BadName", C_BadName), ("BadBox", C_BadBox), ("BadDeed", C_BadDeed), ("BadWay", C_BadWay)] : List (Str × Addr)) by simp), xk_BadBox, xe_BadBox, xs_BadBox, xt_BadBox⟩
  have KX_BadDeed : KnX K mg ⟨[⟨"Tree", C_Tree, fieldsOf "Tree"⟩, ⟨"Chart", C_Chart, fieldsOf "Chart"⟩], ([] : List ((Addr × Addr) × Str)).map fun p => (p.1.2, p.2), [("BadTree", C_BadTree), ("BadName", C_BadName), ("BadBox", C_BadBox), ("BadDeed", C_BadDeed), ("BadWay", C_BadWay)], some w⟩ "BadDeed" := ⟨C_BadDeed, PySem.W.mg_of X G aC_BadDeed, (show (("BadDeed" : Str), C_BadDeed) ∈ ([("BadTree", C_BadTree), ("BadName", C_BadName), ("BadBox", C_BadBox), ("BadDeed", C_BadDeed), ("BadWay", C_BadWay)] : List (Str × Addr)) by simp), xk_BadDeed, xe_BadDeed, xs_BadDeed, xt_BadDeed⟩
  have KX_BadWay : KnX K mg ⟨[⟨"Tree", C_Tree, fieldsOf "Tree"⟩, ⟨"Chart", C_Chart, fieldsOf "Chart"⟩], ([] : List ((Addr × Addr) × Str)).map fun p => (p.1.2, p.2), [("BadTree", C_BadTree), ("BadName", C_BadName), ("BadBox", C_BadBox), ("BadDeed", C_BadDeed), ("BadWay", C_BadWay)], some w⟩ "BadWay" := ⟨C_BadWay, PySem.W.mg_of X G aC_BadWay, (show (("BadWay" : Str), C_BadWay) ∈ ([("BadTree", C_BadTree), ("BadName", C_BadName), ("BadBox", C_BadBox), ("BadDeed", C_BadDeed), ("BadWay", C_BadWay)] : List (Str × Addr)) by simp), xk_BadWay, xe_BadWay, xs_BadWay, xt_BadWay⟩
  have KT_MoodError : KnT K mg ⟨[⟨"Tree", C_Tree, fieldsOf "Tree"⟩, ⟨"Chart", C_Chart, fieldsOf "Chart"⟩], ([] : List ((Addr × Addr) × Str)).map fun p => (p.1.2, p.2), [("BadTree", C_BadTree), ("BadName", C_BadName), ("BadBox", C_BadBox), ("BadDeed", C_BadDeed), ("BadWay", C_BadWay)], some w⟩ "MoodError" := ⟨C_MoodError, PySem.W.mg_of X G aC_MoodError, fun n a m => by
    have m : (n, a) ∈ ([("BadTree", C_BadTree), ("BadName", C_BadName), ("BadBox", C_BadBox), ("BadDeed", C_BadDeed), ("BadWay", C_BadWay)] : List (Str × Addr)) := m
    simp only [List.mem_cons, List.not_mem_nil, or_false, Prod.mk.injEq] at m
    rcases m with ⟨rfl, rfl⟩ | ⟨rfl, rfl⟩ | ⟨rfl, rfl⟩ | ⟨rfl, rfl⟩ | ⟨rfl, rfl⟩
    · exact PySem.W.exm_ref xs_MoodError xd_MoodError xt_MoodError xb_BadTree_MoodError
    · exact PySem.W.exm_ref xs_MoodError xd_MoodError xt_MoodError xb_BadName_MoodError
    · exact PySem.W.exm_ref xs_MoodError xd_MoodError xt_MoodError xb_BadBox_MoodError
    · exact PySem.W.exm_ref xs_MoodError xd_MoodError xt_MoodError xb_BadDeed_MoodError
    · exact PySem.W.exm_ref xs_MoodError xd_MoodError xt_MoodError xb_BadWay_MoodError⟩
  have KM_MoodError : KnEm K ⟨[⟨"Tree", C_Tree, fieldsOf "Tree"⟩, ⟨"Chart", C_Chart, fieldsOf "Chart"⟩], ([] : List ((Addr × Addr) × Str)).map fun p => (p.1.2, p.2), [("BadTree", C_BadTree), ("BadName", C_BadName), ("BadBox", C_BadBox), ("BadDeed", C_BadDeed), ("BadWay", C_BadWay)], some w⟩ (.ref C_MoodError) := ⟨fun n a m => by
    have m : (n, a) ∈ ([("BadTree", C_BadTree), ("BadName", C_BadName), ("BadBox", C_BadBox), ("BadDeed", C_BadDeed), ("BadWay", C_BadWay)] : List (Str × Addr)) := m
    simp only [List.mem_cons, List.not_mem_nil, or_false, Prod.mk.injEq] at m
    rcases m with ⟨rfl, rfl⟩ | ⟨rfl, rfl⟩ | ⟨rfl, rfl⟩ | ⟨rfl, rfl⟩ | ⟨rfl, rfl⟩
    · exact PySem.W.exm_ref xs_MoodError xd_MoodError xt_MoodError xb_BadTree_MoodError
    · exact PySem.W.exm_ref xs_MoodError xd_MoodError xt_MoodError xb_BadName_MoodError
    · exact PySem.W.exm_ref xs_MoodError xd_MoodError xt_MoodError xb_BadBox_MoodError
    · exact PySem.W.exm_ref xs_MoodError xd_MoodError xt_MoodError xb_BadDeed_MoodError
    · exact PySem.W.exm_ref xs_MoodError xd_MoodError xt_MoodError xb_BadWay_MoodError, fun n a m => by
    have m : (n, a) ∈ ([("BadTree", C_BadTree), ("BadName", C_BadName), ("BadBox", C_BadBox), ("BadDeed", C_BadDeed), ("BadWay", C_BadWay)] : List (Str × Addr)) := m
    simp only [List.mem_cons, List.not_mem_nil, or_false, Prod.mk.injEq] at m
    rcases m with ⟨rfl, rfl⟩ | ⟨rfl, rfl⟩ | ⟨rfl, rfl⟩ | ⟨rfl, rfl⟩ | ⟨rfl, rfl⟩
    · exact ⟨xg_BadTree, xh_BadTree, xs_BadTree, xd_BadTree, xa_BadTree, isg, ist, xm_BadTree⟩
    · exact ⟨xg_BadName, xh_BadName, xs_BadName, xd_BadName, xa_BadName, isg, ist, xm_BadName⟩
    · exact ⟨xg_BadBox, xh_BadBox, xs_BadBox, xd_BadBox, xa_BadBox, isg, ist, xm_BadBox⟩
    · exact ⟨xg_BadDeed, xh_BadDeed, xs_BadDeed, xd_BadDeed, xa_BadDeed, isg, ist, xm_BadDeed⟩
    · exact ⟨xg_BadWay, xh_BadWay, xs_BadWay, xd_BadWay, xa_BadWay, isg, ist, xm_BadWay⟩⟩
  have KMI_ValueError : ∀ n D, (n, D) ∈ (⟨[⟨"Tree", C_Tree, fieldsOf "Tree"⟩, ⟨"Chart", C_Chart, fieldsOf "Chart"⟩], ([] : List ((Addr × Addr) × Str)).map fun p => (p.1.2, p.2), [("BadTree", C_BadTree), ("BadName", C_BadName), ("BadBox", C_BadBox), ("BadDeed", C_BadDeed), ("BadWay", C_BadWay)], some w⟩ : Cs).xc → PySem.W.kitOne K (.ref D) (.type "ValueError") = some ((fun n => true) n) := fun n a m => by
    have m : (n, a) ∈ ([("BadTree", C_BadTree), ("BadName", C_BadName), ("BadBox", C_BadBox), ("BadDeed", C_BadDeed), ("BadWay", C_BadWay)] : List (Str × Addr)) := m
    simp only [List.mem_cons, List.not_mem_nil, or_false, Prod.mk.injEq] at m
    rcases m with ⟨rfl, rfl⟩ | ⟨rfl, rfl⟩ | ⟨rfl, rfl⟩ | ⟨rfl, rfl⟩ | ⟨rfl, rfl⟩
    · exact kit_type (by decide) xi_BadTree_ValueError
    · exact kit_type (by decide) xi_BadName_ValueError
    · exact kit_type (by decide) xi_BadBox_ValueError
    · exact kit_type (by decide) xi_BadDeed_ValueError
    · exact kit_type (by decide) xi_BadWay_ValueError
  have KMI_BadTree : ∀ n D, (n, D) ∈ (⟨[⟨"Tree", C_Tree, fieldsOf "Tree"⟩, ⟨"Chart", C_Chart, fieldsOf "Chart"⟩], ([] : List ((Addr × Addr) × Str)).map fun p => (p.1.2, p.2), [("BadTree", C_BadTree), ("BadName", C_BadName), ("BadBox", C_BadBox), ("BadDeed", C_BadDeed), ("BadWay", C_BadWay)], some w⟩ : Cs).xc → PySem.W.kitOne K (.ref D) (.ref C_BadTree) = some ((fun n => n == ("BadTree" : Str)) n) := fun n a m => by
    have m : (n, a) ∈ ([("BadTree", C_BadTree), ("BadName", C_BadName), ("BadBox", C_BadBox), ("BadDeed", C_BadDeed), ("BadWay", C_BadWay)] : List (Str × Addr)) := m
    simp only [List.mem_cons, List.not_mem_nil, or_false, Prod.mk.injEq] at m
    rcases m with ⟨rfl, rfl⟩ | ⟨rfl, rfl⟩ | ⟨rfl, rfl⟩ | ⟨rfl, rfl⟩ | ⟨rfl, rfl⟩
    · exact (kit_own xp_BadTree xq_BadTree xo_BadTree_BadTree xb_BadTree_BadTree).trans (congrArg some (by decide +kernel))
    · exact (kit_own xp_BadTree xq_BadTree xo_BadName_BadTree xb_BadName_BadName).trans (congrArg some (by decide +kernel))
    · exact (kit_own xp_BadTree xq_BadTree xo_BadBox_BadTree xb_BadBox_BadBox).trans (congrArg some (by decide +kernel))
    · exact (kit_own xp_BadTree xq_BadTree xo_BadDeed_BadTree xb_BadDeed_BadDeed).trans (congrArg some (by decide +kernel))
    · exact (kit_own xp_BadTree xq_BadTree xo_BadWay_BadTree xb_BadWay_BadWay).trans (congrArg some (by decide +kernel))
  have KMI_BadName : ∀ n D, (n, D) ∈ (⟨[⟨"Tree", C_Tree, fieldsOf "Tree"⟩, ⟨"Chart", C_Chart, fieldsOf "Chart"⟩], ([] : List ((Addr × Addr) × Str)).map fun p => (p.1.2, p.2), [("BadTree", C_BadTree), ("BadName", C_BadName), ("BadBox", C_BadBox), ("BadDeed", C_BadDeed), ("BadWay", C_BadWay)], some w⟩ : Cs).xc → PySem.W.kitOne K (.ref D) (.ref C_BadName) = some ((fun n => n == ("BadName" : Str)) n) := fun n a m => by
    have m : (n, a) ∈ ([("BadTree", C_BadTree), ("BadName", C_BadName), ("BadBox", C_BadBox), ("BadDeed", C_BadDeed), ("BadWay", C_BadWay)] : List (Str × Addr)) := m
    simp only [List.mem_cons, List.not_mem_nil, or_false, Prod.mk.injEq] at m
    rcases m with ⟨rfl, rfl⟩ | ⟨rfl, rfl⟩ | ⟨rfl, rfl⟩ | ⟨rfl, rfl⟩ | ⟨rfl, rfl⟩
    · exact (kit_own xp_BadName xq_BadName xo_BadTree_BadName xb_BadTree_BadTree).trans (congrArg some (by decide +kernel))
    · exact (kit_own xp_BadName xq_BadName xo_BadName_BadName xb_BadName_BadName).trans (congrArg some (by decide +kernel))
    · exact (kit_own xp_BadName xq_BadName xo_BadBox_BadName xb_BadBox_BadBox).trans (congrArg some (by decide +kernel))
    · exact (kit_own xp_BadName xq_BadName xo_BadDeed_BadName xb_BadDeed_BadDeed).trans (congrArg some (by decide +kernel))
    · exact (kit_own xp_BadName xq_BadName xo_BadWay_BadName xb_BadWay_BadWay).trans (congrArg some (by decide +kernel))
  have KMI_BadBox : ∀ n D, (n, D) ∈ (⟨[⟨"Tree", C_Tree, fieldsOf "Tree"⟩, ⟨"Chart", C_Chart, fieldsOf "Chart"⟩], ([] : List ((Addr × Addr) × Str)).map fun p => (p.1.2, p.2), [("BadTree", C_BadTree), ("BadName", C_BadName), ("BadBox", C_BadBox), ("BadDeed", C_BadDeed), ("BadWay", C_BadWay)], some w⟩ : Cs).xc → PySem.W.kitOne K (.ref D) (.ref C_BadBox) = some ((fun n => n == ("BadBox" : Str)) n) := fun n a m => by
    have m : (n, a) ∈ ([("BadTree", C_BadTree), ("BadName", C_BadName), ("BadBox", C_BadBox), ("BadDeed", C_BadDeed), ("BadWay", C_BadWay)] : List (Str × Addr)) := m
    simp only [List.mem_cons, List.not_mem_nil, or_false, Prod.mk.injEq] at m
    rcases m with ⟨rfl, rfl⟩ | ⟨rfl, rfl⟩ | ⟨rfl, rfl⟩ | ⟨rfl, rfl⟩ | ⟨rfl, rfl⟩
    · exact (kit_own xp_BadBox xq_BadBox xo_BadTree_BadBox xb_BadTree_BadTree).trans (congrArg some (by decide +kernel))
    · exact (kit_own xp_BadBox xq_BadBox xo_BadName_BadBox xb_BadName_BadName).trans (congrArg some (by decide +kernel))
    · exact (kit_own xp_BadBox xq_BadBox xo_BadBox_BadBox xb_BadBox_BadBox).trans (congrArg some (by decide +kernel))
    · exact (kit_own xp_BadBox xq_BadBox xo_BadDeed_BadBox xb_BadDeed_BadDeed).trans (congrArg some (by decide +kernel))
    · exact (kit_own xp_BadBox xq_BadBox xo_BadWay_BadBox xb_BadWay_BadWay).trans (congrArg some (by decide +kernel))
  have KMI_BadDeed : ∀ n D, (n, D) ∈ (⟨[⟨"Tree", C_Tree, fieldsOf "Tree"⟩, ⟨"Chart", C_Chart, fieldsOf "Chart"⟩], ([] : List ((Addr × Addr) × Str)).map fun p => (p.1.2, p.2), [("BadTree", C_BadTree), ("BadName", C_BadName), ("BadBox", C_BadBox), ("BadDeed", C_BadDeed), ("BadWay", C_BadWay)], some w⟩ : Cs).xc → PySem.W.kitOne K (.ref D) (.ref C_BadDeed) = some ((fun n => n == ("BadDeed" : Str)) n) := fun n a m => by
    have m : (n, a) ∈ ([("BadTree", C_BadTree), ("BadName", C_BadName), ("BadBox", C_BadBox), ("BadDeed", C_BadDeed), ("BadWay", C_BadWay)] : List (Str × Addr)) := m
    simp only [List.mem_cons, List.not_mem_nil, or_false, Prod.mk.injEq] at m
    rcases m with ⟨rfl, rfl⟩ | ⟨rfl, rfl⟩ | ⟨rfl, rfl⟩ | ⟨rfl, rfl⟩ | ⟨rfl, rfl⟩
    · exact (kit_own xp_BadDeed xq_BadDeed xo_BadTree_BadDeed xb_BadTree_BadTree).trans (congrArg some (by decide +kernel))
    · exact (kit_own xp_BadDeed xq_BadDeed xo_BadName_BadDeed xb_BadName_BadName).trans (congrArg some (by decide +kernel))
    · exact (kit_own xp_BadDeed xq_BadDeed xo_BadBox_BadDeed xb_BadBox_BadBox).trans (congrArg some (by decide +kernel))
    · exact (kit_own xp_BadDeed xq_BadDeed xo_BadDeed_BadDeed xb_BadDeed_BadDeed).trans (congrArg some (by decide +kernel))
    · exact (kit_own xp_BadDeed xq_BadDeed xo_BadWay_BadDeed xb_BadWay_BadWay).trans (congrArg some (by decide +kernel))
  have KMI_BadWay : ∀ n D, (n, D) ∈ (⟨[⟨"Tree", C_Tree, fieldsOf "Tree"⟩, ⟨"Chart", C_Chart, fieldsOf "Chart"⟩], ([] : List ((Addr × Addr) × Str)).map fun p => (p.1.2, p.2), [("BadTree", C_BadTree), ("BadName", C_BadName), ("BadBox", C_BadBox), ("BadDeed", C_BadDeed), ("BadWay", C_BadWay)], some w⟩ : Cs).xc → PySem.W.kitOne K (.ref D) (.ref C_BadWay) = some ((fun n => n == ("BadWay" : Str)) n) := fun n a m => by
    have m : (n, a) ∈ ([("BadTree", C_BadTree), ("BadName", C_BadName), ("BadBox", C_BadBox), ("BadDeed", C_BadDeed), ("BadWay", C_BadWay)] : List (Str × Addr)) := m
    simp only [List.mem_cons, List.not_mem_nil, or_false, Prod.mk.injEq] at m
    rcases m with ⟨rfl, rfl⟩ | ⟨rfl, rfl⟩ | ⟨rfl, rfl⟩ | ⟨rfl, rfl⟩ | ⟨rfl, rfl⟩
    · exact (kit_own xp_BadWay xq_BadWay xo_BadTree_BadWay xb_BadTree_BadTree).trans (congrArg some (by decide +kernel))
    · exact (kit_own xp_BadWay xq_BadWay xo_BadName_BadWay xb_BadName_BadName).trans (congrArg some (by decide +kernel))
    · exact (kit_own xp_BadWay xq_BadWay xo_BadBox_BadWay xb_BadBox_BadBox).trans (congrArg some (by decide +kernel))
    · exact (kit_own xp_BadWay xq_BadWay xo_BadDeed_BadWay xb_BadDeed_BadDeed).trans (congrArg some (by decide +kernel))
    · exact (kit_own xp_BadWay xq_BadWay xo_BadWay_BadWay xb_BadWay_BadWay).trans (congrArg some (by decide +kernel))
  have KC_BadTree : KnTc K mg ⟨[⟨"Tree", C_Tree, fieldsOf "Tree"⟩, ⟨"Chart", C_Chart, fieldsOf "Chart"⟩], ([] : List ((Addr × Addr) × Str)).map fun p => (p.1.2, p.2), [("BadTree", C_BadTree), ("BadName", C_BadName), ("BadBox", C_BadBox), ("BadDeed", C_BadDeed), ("BadWay", C_BadWay)], some w⟩ "BadTree" (fun n => n == ("BadTree" : Str)) := ⟨C_BadTree, PySem.W.mg_of X G aC_BadTree, fun n a m => by
    have m : (n, a) ∈ ([("BadTree", C_BadTree), ("BadName", C_BadName), ("BadBox", C_BadBox), ("BadDeed", C_BadDeed), ("BadWay", C_BadWay)] : List (Str × Addr)) := m
    simp only [List.mem_cons, List.not_mem_nil, or_false, Prod.mk.injEq] at m
    rcases m with ⟨rfl, rfl⟩ | ⟨rfl, rfl⟩ | ⟨rfl, rfl⟩ | ⟨rfl, rfl⟩ | ⟨rfl, rfl⟩
    · exact (PySem.W.exm_ref xs_BadTree xd_BadTree xt_BadTree xb_BadTree_BadTree).trans (congrArg some (by decide +kernel))
    · exact (PySem.W.exm_ref xs_BadTree xd_BadTree xt_BadTree xb_BadName_BadTree).trans (congrArg some (by decide +kernel))
    · exact (PySem.W.exm_ref xs_BadTree xd_BadTree xt_BadTree xb_BadBox_BadTree).trans (congrArg some (by decide +kernel))
    · exact (PySem.W.exm_ref xs_BadTree xd_BadTree xt_BadTree xb_BadDeed_BadTree).trans (congrArg some (by decide +kernel))
    · exact (PySem.W.exm_ref xs_BadTree xd_BadTree xt_BadTree xb_BadWay_BadTree).trans (congrArg some (by decide +kernel))⟩
  have KC_BadName : KnTc K mg ⟨[⟨"Tree", C_Tree, fieldsOf "Tree"⟩, ⟨"Chart", C_Chart, fieldsOf "Chart"⟩], ([] : List ((Addr × Addr) × Str)).map fun p => (p.1.2, p.2), [("BadTree", C_BadTree), ("BadName", C_BadName), ("BadBox", C_BadBox), ("BadDeed", C_BadDeed), ("BadWay", C_BadWay)], some w⟩ "BadName" (fun n => n == ("BadName" : Str)) := ⟨C_BadName, PySem.W.mg_of X G aC_BadName, fun n a m => by
    have m : (n, a) ∈ ([("BadTree", C_BadTree), ("BadName", C_BadName), ("BadBox", C_BadBox), ("BadDeed", C_BadDeed), ("BadWay", C_BadWay)] : List (Str × Addr)) := m
    simp only [List.mem_cons, List.not_mem_nil, or_false, Prod.mk.injEq] at m
    rcases m with ⟨rfl, rfl⟩ | ⟨rfl, rfl⟩ | ⟨rfl, rfl⟩ | ⟨rfl, rfl⟩ | ⟨rfl, rfl⟩
    · exact (PySem.W.exm_ref xs_BadName xd_BadName xt_BadName xb_BadTree_BadName).trans (congrArg some (by decide +kernel))
    · exact (PySem.W.exm_ref xs_BadName xd_BadName xt_BadName xb_BadName_BadName).trans (congrArg some (by decide +kernel))
    · exact (PySem.W.exm_ref xs_BadName xd_BadName xt_BadName xb_BadBox_BadName).trans (congrArg some (by decide +kernel))
    · exact (PySem.W.exm_ref xs_BadName xd_BadName xt_BadName xb_BadDeed_BadName).trans (congrArg some (by decide +kernel))
    · exact (PySem.W.exm_ref xs_BadName xd_BadName xt_BadName xb_BadWay_BadName).trans (congrArg some (by decide +kernel))⟩
  have KC_BadBox : KnTc K mg ⟨[⟨"Tree", C_Tree, fieldsOf "Tree"⟩, ⟨"Chart", C_Chart, fieldsOf "Chart"⟩], ([] : List ((Addr × Addr) × Str)).map fun p => (p.1.2, p.2), [("BadTree", C_BadTree), ("BadName", C_BadName), ("BadBox", C_BadBox), ("BadDeed", C_BadDeed), ("BadWay", C_BadWay)], some w⟩ "BadBox" (fun n => n == ("BadBox" : Str)) := ⟨C_BadBox, PySem.W.mg_of X G aC_BadBox, fun n a m => by
    have m : (n, a) ∈ ([("BadTree", C_BadTree), ("BadName", C_BadName), ("BadBox", C_BadBox), ("BadDeed", C_BadDeed), ("BadWay", C_BadWay)] : List (Str × Addr)) := m
    simp only [List.mem_cons, List.not_mem_nil, or_false, Prod.mk.injEq] at m
    rcases m with ⟨rfl, rfl⟩ | ⟨rfl, rfl⟩ | ⟨rfl, rfl⟩ | ⟨rfl, rfl⟩ | ⟨rfl, rfl⟩
    · exact (PySem.W.exm_ref xs_BadBox xd_BadBox xt_BadBox xb_BadTree_BadBox).trans (congrArg some (by decide +kernel))
    · exact (PySem.W.exm_ref xs_BadBox xd_BadBox xt_BadBox xb_BadName_BadBox).trans (congrArg some (by decide +kernel))
    · exact (PySem.W.exm_ref xs_BadBox xd_BadBox xt_BadBox xb_BadBox_BadBox).trans (congrArg some (by decide +kernel))
    · exact (PySem.W.exm_ref xs_BadBox xd_BadBox xt_BadBox xb_BadDeed_BadBox).trans (congrArg some (by decide +kernel))
    · exact (PySem.W.exm_ref xs_BadBox xd_BadBox xt_BadBox xb_BadWay_BadBox).trans (congrArg some (by decide +kernel))⟩
  have KC_BadDeed : KnTc K mg ⟨[⟨"Tree", C_Tree, fieldsOf "Tree"⟩, ⟨"Chart", C_Chart, fieldsOf "Chart"⟩], ([] : List ((Addr × Addr) × Str)).map fun p => (p.1.2, p.2), [("BadTree", C_BadTree), ("BadName", C_BadName), ("BadBox", C_BadBox), ("BadDeed", C_BadDeed), ("BadWay", C_BadWay)], some w⟩ "BadDeed" (fun n => n == ("BadDeed" : Str)) := ⟨C_BadDeed, PySem.W.mg_of X G aC_BadDeed, fun n a m => by
    have m : (n, a) ∈ ([("BadTree", C_BadTree), ("BadName", C_BadName), ("BadBox", C_BadBox), ("BadDeed", C_BadDeed), ("BadWay", C_BadWay)] : List (Str × Addr)) := m
    simp only [List.mem_cons, List.not_mem_nil, or_false, Prod.mk.injEq] at m
    rcases m with ⟨rfl, rfl⟩ | ⟨rfl, rfl⟩ | ⟨rfl, rfl⟩ | ⟨rfl, rfl⟩ | ⟨rfl, rfl⟩
    · exact (PySem.W.exm_ref xs_BadDeed xd_BadDeed xt_BadDeed xb_BadTree_BadDeed).trans (congrArg some (by decide +kernel))
    · exact (PySem.W.exm_ref xs_BadDeed xd_BadDeed xt_BadDeed xb_BadName_BadDeed).trans (congrArg some (by decide +kernel))
    · exact (PySem.W.exm_ref xs_BadDeed xd_BadDeed xt_BadDeed xb_BadBox_BadDeed).trans (congrArg some (by decide +kernel))
    · exact (PySem.W.exm_ref xs_BadDeed xd_BadDeed xt_BadDeed xb_BadDeed_BadDeed).trans (congrArg some (by decide +kernel))
    · exact (PySem.W.exm_ref xs_BadDeed xd_BadDeed xt_BadDeed xb_BadWay_BadDeed).trans (congrArg some (by decide +kernel))⟩
  have KC_BadWay : KnTc K mg ⟨[⟨"Tree", C_Tree, fieldsOf "Tree"⟩, ⟨"Chart", C_Chart, fieldsOf "Chart"⟩], ([] : List ((Addr × Addr) × Str)).map fun p => (p.1.2, p.2), [("BadTree", C_BadTree), ("BadName", C_BadName), ("BadBox", C_BadBox), ("BadDeed", C_BadDeed), ("BadWay", C_BadWay)], some w⟩ "BadWay" (fun n => n == ("BadWay" : Str)) := ⟨C_BadWay, PySem.W.mg_of X G aC_BadWay, fun n a m => by
    have m : (n, a) ∈ ([("BadTree", C_BadTree), ("BadName", C_BadName), ("BadBox", C_BadBox), ("BadDeed", C_BadDeed), ("BadWay", C_BadWay)] : List (Str × Addr)) := m
    simp only [List.mem_cons, List.not_mem_nil, or_false, Prod.mk.injEq] at m
    rcases m with ⟨rfl, rfl⟩ | ⟨rfl, rfl⟩ | ⟨rfl, rfl⟩ | ⟨rfl, rfl⟩ | ⟨rfl, rfl⟩
    · exact (PySem.W.exm_ref xs_BadWay xd_BadWay xt_BadWay xb_BadTree_BadWay).trans (congrArg some (by decide +kernel))
    · exact (PySem.W.exm_ref xs_BadWay xd_BadWay xt_BadWay xb_BadName_BadWay).trans (congrArg some (by decide +kernel))
    · exact (PySem.W.exm_ref xs_BadWay xd_BadWay xt_BadWay xb_BadBox_BadWay).trans (congrArg some (by decide +kernel))
    · exact (PySem.W.exm_ref xs_BadWay xd_BadWay xt_BadWay xb_BadDeed_BadWay).trans (congrArg some (by decide +kernel))
    · exact (PySem.W.exm_ref xs_BadWay xd_BadWay xt_BadWay xb_BadWay_BadWay).trans (congrArg some (by decide +kernel))⟩
  have K_L_above := kn_L_above (base := base) (P := l.prog) (w := w) (cs := ⟨[⟨"Tree", C_Tree, fieldsOf "Tree"⟩, ⟨"Chart", C_Chart, fieldsOf "Chart"⟩], ([] : List ((Addr × Addr) × Str)).map fun p => (p.1.2, p.2), [("BadTree", C_BadTree), ("BadName", C_BadName), ("BadBox", C_BadBox), ("BadDeed", C_BadDeed), ("BadWay", C_BadWay)], some w⟩) hC hcf fr gc_DEEPEST gc_FIGURES gc_LETTERS gc_WORDS F_L_above (PySem.W.mg_of X G a_L_above) b_L_above (s := sp_L_above) len_L_above d_L_above
  have K_L_cell_at := kn_L_cell_at (base := base) (P := l.prog) (w := w) (cs := ⟨[⟨"Tree", C_Tree, fieldsOf "Tree"⟩, ⟨"Chart", C_Chart, fieldsOf "Chart"⟩], ([] : List ((Addr × Addr) × Str)).map fun p => (p.1.2, p.2), [("BadTree", C_BadTree), ("BadName", C_BadName), ("BadBox", C_BadBox), ("BadDeed", C_BadDeed), ("BadWay", C_BadWay)], some w⟩) hC hcf fr gc_DEEPEST gc_FIGURES gc_LETTERS gc_WORDS F_L_cell_at (PySem.W.mg_of X G a_L_cell_at) b_L_cell_at (s := sp_L_cell_at) len_L_cell_at d_L_cell_at
  have K_L_elders_6 := kn_L_elders_6 (base := base) (P := l.prog) (w := w) (cs := ⟨[⟨"Tree", C_Tree, fieldsOf "Tree"⟩, ⟨"Chart", C_Chart, fieldsOf "Chart"⟩], ([] : List ((Addr × Addr) × Str)).map fun p => (p.1.2, p.2), [("BadTree", C_BadTree), ("BadName", C_BadName), ("BadBox", C_BadBox), ("BadDeed", C_BadDeed), ("BadWay", C_BadWay)], some w⟩) hC hcf fr gc_DEEPEST gc_FIGURES gc_LETTERS gc_WORDS K_L_above K_L_cell_at F_L_elders_6 (PySem.W.mg_of X G a_L_elders_6) b_L_elders_6 (s := sp_L_elders_6) len_L_elders_6 d_L_elders_6
  have K_L_kinds_3 := kn_L_kinds_3 (base := base) (P := l.prog) (w := w) (cs := ⟨[⟨"Tree", C_Tree, fieldsOf "Tree"⟩, ⟨"Chart", C_Chart, fieldsOf "Chart"⟩], ([] : List ((Addr × Addr) × Str)).map fun p => (p.1.2, p.2), [("BadTree", C_BadTree), ("BadName", C_BadName), ("BadBox", C_BadBox), ("BadDeed", C_BadDeed), ("BadWay", C_BadWay)], some w⟩) hC hcf fr gc_DEEPEST gc_FIGURES gc_LETTERS gc_WORDS K_L_cell_at F_L_kinds_3 (PySem.W.mg_of X G a_L_kinds_3) b_L_kinds_3 (s := sp_L_kinds_3) len_L_kinds_3 d_L_kinds_3
  have K_L_names := kn_L_names (base := base) (P := l.prog) (w := w) (cs := ⟨[⟨"Tree", C_Tree, fieldsOf "Tree"⟩, ⟨"Chart", C_Chart, fieldsOf "Chart"⟩], ([] : List ((Addr × Addr) × Str)).map fun p => (p.1.2, p.2), [("BadTree", C_BadTree), ("BadName", C_BadName), ("BadBox", C_BadBox), ("BadDeed", C_BadDeed), ("BadWay", C_BadWay)], some w⟩) hC hcf fr gc_DEEPEST gc_FIGURES gc_LETTERS gc_WORDS F_L_names (PySem.W.mg_of X G a_L_names) b_L_names (s := sp_L_names) len_L_names d_L_names
  have K_L_far_2 := kn_L_far_2 (base := base) (P := l.prog) (w := w) (cs := ⟨[⟨"Tree", C_Tree, fieldsOf "Tree"⟩, ⟨"Chart", C_Chart, fieldsOf "Chart"⟩], ([] : List ((Addr × Addr) × Str)).map fun p => (p.1.2, p.2), [("BadTree", C_BadTree), ("BadName", C_BadName), ("BadBox", C_BadBox), ("BadDeed", C_BadDeed), ("BadWay", C_BadWay)], some w⟩) hC hcf fr gc_DEEPEST gc_FIGURES gc_LETTERS gc_WORDS F_L_far_2 (PySem.W.mg_of X G a_L_far_2) b_L_far_2 (s := sp_L_far_2) len_L_far_2 d_L_far_2
  have K_L_term_3 := kn_L_term_3 (base := base) (P := l.prog) (w := w) (cs := ⟨[⟨"Tree", C_Tree, fieldsOf "Tree"⟩, ⟨"Chart", C_Chart, fieldsOf "Chart"⟩], ([] : List ((Addr × Addr) × Str)).map fun p => (p.1.2, p.2), [("BadTree", C_BadTree), ("BadName", C_BadName), ("BadBox", C_BadBox), ("BadDeed", C_BadDeed), ("BadWay", C_BadWay)], some w⟩) hC hcf fr gc_DEEPEST gc_FIGURES gc_LETTERS gc_WORDS K_L_far_2 F_L_term_3 (PySem.W.mg_of X G a_L_term_3) b_L_term_3 (s := sp_L_term_3) len_L_term_3 d_L_term_3
  have K_L_deed_2 := kn_L_deed_2 (base := base) (P := l.prog) (w := w) (cs := ⟨[⟨"Tree", C_Tree, fieldsOf "Tree"⟩, ⟨"Chart", C_Chart, fieldsOf "Chart"⟩], ([] : List ((Addr × Addr) × Str)).map fun p => (p.1.2, p.2), [("BadTree", C_BadTree), ("BadName", C_BadName), ("BadBox", C_BadBox), ("BadDeed", C_BadDeed), ("BadWay", C_BadWay)], some w⟩) hC hcf fr gc_DEEPEST gc_FIGURES gc_LETTERS gc_WORDS K_L_term_3 F_L_deed_2 (PySem.W.mg_of X G a_L_deed_2) b_L_deed_2 (s := sp_L_deed_2) len_L_deed_2 d_L_deed_2
  have K_L_rows_3 := kn_L_rows_3 (base := base) (P := l.prog) (w := w) (cs := ⟨[⟨"Tree", C_Tree, fieldsOf "Tree"⟩, ⟨"Chart", C_Chart, fieldsOf "Chart"⟩], ([] : List ((Addr × Addr) × Str)).map fun p => (p.1.2, p.2), [("BadTree", C_BadTree), ("BadName", C_BadName), ("BadBox", C_BadBox), ("BadDeed", C_BadDeed), ("BadWay", C_BadWay)], some w⟩) hC hcf fr gc_DEEPEST gc_FIGURES gc_LETTERS gc_WORDS K_L_cell_at K_L_deed_2 F_L_rows_3 (PySem.W.mg_of X G a_L_rows_3) b_L_rows_3 (s := sp_L_rows_3) len_L_rows_3 d_L_rows_3
  have K_L_ask_3 := kn_L_ask_3 (base := base) (P := l.prog) (w := w) (cs := ⟨[⟨"Tree", C_Tree, fieldsOf "Tree"⟩, ⟨"Chart", C_Chart, fieldsOf "Chart"⟩], ([] : List ((Addr × Addr) × Str)).map fun p => (p.1.2, p.2), [("BadTree", C_BadTree), ("BadName", C_BadName), ("BadBox", C_BadBox), ("BadDeed", C_BadDeed), ("BadWay", C_BadWay)], some w⟩) hC hcf fr gc_DEEPEST gc_FIGURES gc_LETTERS gc_WORDS K_L_term_3 F_L_ask_3 (PySem.W.mg_of X G a_L_ask_3) b_L_ask_3 (s := sp_L_ask_3) len_L_ask_3 d_L_ask_3
  have K_L_way_2 := kn_L_way_2 (base := base) (P := l.prog) (w := w) (cs := ⟨[⟨"Tree", C_Tree, fieldsOf "Tree"⟩, ⟨"Chart", C_Chart, fieldsOf "Chart"⟩], ([] : List ((Addr × Addr) × Str)).map fun p => (p.1.2, p.2), [("BadTree", C_BadTree), ("BadName", C_BadName), ("BadBox", C_BadBox), ("BadDeed", C_BadDeed), ("BadWay", C_BadWay)], some w⟩) hC hcf fr gc_DEEPEST gc_FIGURES gc_LETTERS gc_WORDS K_L_cell_at K_L_ask_3 K_L_deed_2 F_L_way_2 (PySem.W.mg_of X G a_L_way_2) b_L_way_2 (s := sp_L_way_2) len_L_way_2 d_L_way_2
  have K_L_partsM := kn_L_partsM (base := base) (P := l.prog) (w := w) (cs := ⟨[⟨"Tree", C_Tree, fieldsOf "Tree"⟩, ⟨"Chart", C_Chart, fieldsOf "Chart"⟩], ([] : List ((Addr × Addr) × Str)).map fun p => (p.1.2, p.2), [("BadTree", C_BadTree), ("BadName", C_BadName), ("BadBox", C_BadBox), ("BadDeed", C_BadDeed), ("BadWay", C_BadWay)], some w⟩) hC hcf fr gc_DEEPEST gc_FIGURES gc_LETTERS gc_WORDS K_L_cell_at K_L_elders_6 K_L_kinds_3 K_L_names K_L_far_2 K_L_rows_3 K_L_way_2 F_L_partsM (PySem.W.mg_of X G a_L_partsM) b_L_partsM (s := sp_L_partsM) len_L_partsM d_L_partsM
  have K_Tree_init := kn_Tree_init (base := base) (P := l.prog) (w := w) (cs := ⟨[⟨"Tree", C_Tree, fieldsOf "Tree"⟩, ⟨"Chart", C_Chart, fieldsOf "Chart"⟩], ([] : List ((Addr × Addr) × Str)).map fun p => (p.1.2, p.2), [("BadTree", C_BadTree), ("BadName", C_BadName), ("BadBox", C_BadBox), ("BadDeed", C_BadDeed), ("BadWay", C_BadWay)], some w⟩) hC hcf fr gc_DEEPEST gc_FIGURES gc_LETTERS gc_WORDS F_Tree_init ⟨mk_Tree, a_Tree_init, i_Tree_init, kc_Tree⟩ (PySem.W.mg_of X G aC_Tree) b_Tree_init (ci := ⟨"Tree", C_Tree, fieldsOf "Tree"⟩) (show _ ∈ ([⟨"Tree", C_Tree, fieldsOf "Tree"⟩, ⟨"Chart", C_Chart, fieldsOf "Chart"⟩] : List CI) by simp) rfl rfl (s := sp_Tree_init) len_Tree_init d_Tree_init
  have K_Chart_init := kn_Chart_init (base := base) (P := l.prog) (w := w) (cs := ⟨[⟨"Tree", C_Tree, fieldsOf "Tree"⟩, ⟨"Chart", C_Chart, fieldsOf "Chart"⟩], ([] : List ((Addr × Addr) × Str)).map fun p => (p.1.2, p.2), [("BadTree", C_BadTree), ("BadName", C_BadName), ("BadBox", C_BadBox), ("BadDeed", C_BadDeed), ("BadWay", C_BadWay)], some w⟩) hC hcf fr gc_DEEPEST gc_FIGURES gc_LETTERS gc_WORDS K_Tree_init F_Chart_init ⟨mk_Chart, a_Chart_init, i_Chart_init, kc_Chart⟩ (PySem.W.mg_of X G aC_Chart) b_Chart_init (ci := ⟨"Chart", C_Chart, fieldsOf "Chart"⟩) (show _ ∈ ([⟨"Tree", C_Tree, fieldsOf "Tree"⟩, ⟨"Chart", C_Chart, fieldsOf "Chart"⟩] : List CI) by simp) rfl rfl (s := sp_Chart_init) len_Chart_init d_Chart_init
  have K_L_chart_8 := kn_L_chart_8 (base := base) (P := l.prog) (w := w) (cs := ⟨[⟨"Tree", C_Tree, fieldsOf "Tree"⟩, ⟨"Chart", C_Chart, fieldsOf "Chart"⟩], ([] : List ((Addr × Addr) × Str)).map fun p => (p.1.2, p.2), [("BadTree", C_BadTree), ("BadName", C_BadName), ("BadBox", C_BadBox), ("BadDeed", C_BadDeed), ("BadWay", C_BadWay)], some w⟩) hC hcf fr gc_DEEPEST gc_FIGURES gc_LETTERS gc_WORDS K_Tree_init K_Chart_init F_L_chart_8 (PySem.W.mg_of X G a_L_chart_8) b_L_chart_8 (s := sp_L_chart_8) len_L_chart_8 d_L_chart_8
  have K_L_spoil_tree := kn_L_spoil_tree (base := base) (P := l.prog) (w := w) (cs := ⟨[⟨"Tree", C_Tree, fieldsOf "Tree"⟩, ⟨"Chart", C_Chart, fieldsOf "Chart"⟩], ([] : List ((Addr × Addr) × Str)).map fun p => (p.1.2, p.2), [("BadTree", C_BadTree), ("BadName", C_BadName), ("BadBox", C_BadBox), ("BadDeed", C_BadDeed), ("BadWay", C_BadWay)], some w⟩) hC hcf fr gc_DEEPEST gc_FIGURES gc_LETTERS gc_WORDS F_L_spoil_tree (PySem.W.mg_of X G a_L_spoil_tree) b_L_spoil_tree (s := sp_L_spoil_tree) len_L_spoil_tree d_L_spoil_tree
  have K_L_bad_name := kn_L_bad_name (base := base) (P := l.prog) (w := w) (cs := ⟨[⟨"Tree", C_Tree, fieldsOf "Tree"⟩, ⟨"Chart", C_Chart, fieldsOf "Chart"⟩], ([] : List ((Addr × Addr) × Str)).map fun p => (p.1.2, p.2), [("BadTree", C_BadTree), ("BadName", C_BadName), ("BadBox", C_BadBox), ("BadDeed", C_BadDeed), ("BadWay", C_BadWay)], some w⟩) hC hcf fr gc_DEEPEST gc_FIGURES gc_LETTERS gc_WORDS F_L_bad_name (PySem.W.mg_of X G a_L_bad_name) b_L_bad_name (s := sp_L_bad_name) len_L_bad_name d_L_bad_name
  have K_L_spoil_name := kn_L_spoil_name (base := base) (P := l.prog) (w := w) (cs := ⟨[⟨"Tree", C_Tree, fieldsOf "Tree"⟩, ⟨"Chart", C_Chart, fieldsOf "Chart"⟩], ([] : List ((Addr × Addr) × Str)).map fun p => (p.1.2, p.2), [("BadTree", C_BadTree), ("BadName", C_BadName), ("BadBox", C_BadBox), ("BadDeed", C_BadDeed), ("BadWay", C_BadWay)], some w⟩) hC hcf fr gc_DEEPEST gc_FIGURES gc_LETTERS gc_WORDS K_L_bad_name F_L_spoil_name (PySem.W.mg_of X G a_L_spoil_name) b_L_spoil_name (s := sp_L_spoil_name) len_L_spoil_name d_L_spoil_name
  have K_L_spoil_box := kn_L_spoil_box (base := base) (P := l.prog) (w := w) (cs := ⟨[⟨"Tree", C_Tree, fieldsOf "Tree"⟩, ⟨"Chart", C_Chart, fieldsOf "Chart"⟩], ([] : List ((Addr × Addr) × Str)).map fun p => (p.1.2, p.2), [("BadTree", C_BadTree), ("BadName", C_BadName), ("BadBox", C_BadBox), ("BadDeed", C_BadDeed), ("BadWay", C_BadWay)], some w⟩) hC hcf fr gc_DEEPEST gc_FIGURES gc_LETTERS gc_WORDS K_L_bad_name F_L_spoil_box (PySem.W.mg_of X G a_L_spoil_box) b_L_spoil_box (s := sp_L_spoil_box) len_L_spoil_box d_L_spoil_box
  have K_L_bad_term := kn_L_bad_term (base := base) (P := l.prog) (w := w) (cs := ⟨[⟨"Tree", C_Tree, fieldsOf "Tree"⟩, ⟨"Chart", C_Chart, fieldsOf "Chart"⟩], ([] : List ((Addr × Addr) × Str)).map fun p => (p.1.2, p.2), [("BadTree", C_BadTree), ("BadName", C_BadName), ("BadBox", C_BadBox), ("BadDeed", C_BadDeed), ("BadWay", C_BadWay)], some w⟩) hC hcf fr gc_DEEPEST gc_FIGURES gc_LETTERS gc_WORDS F_L_bad_term (PySem.W.mg_of X G a_L_bad_term) b_L_bad_term (s := sp_L_bad_term) len_L_bad_term d_L_bad_term
  have K_L_bad_deed := kn_L_bad_deed (base := base) (P := l.prog) (w := w) (cs := ⟨[⟨"Tree", C_Tree, fieldsOf "Tree"⟩, ⟨"Chart", C_Chart, fieldsOf "Chart"⟩], ([] : List ((Addr × Addr) × Str)).map fun p => (p.1.2, p.2), [("BadTree", C_BadTree), ("BadName", C_BadName), ("BadBox", C_BadBox), ("BadDeed", C_BadDeed), ("BadWay", C_BadWay)], some w⟩) hC hcf fr gc_DEEPEST gc_FIGURES gc_LETTERS gc_WORDS K_L_bad_term K_L_bad_name F_L_bad_deed (PySem.W.mg_of X G a_L_bad_deed) b_L_bad_deed (s := sp_L_bad_deed) len_L_bad_deed d_L_bad_deed
  have K_L_put_in := kn_L_put_in (base := base) (P := l.prog) (w := w) (cs := ⟨[⟨"Tree", C_Tree, fieldsOf "Tree"⟩, ⟨"Chart", C_Chart, fieldsOf "Chart"⟩], ([] : List ((Addr × Addr) × Str)).map fun p => (p.1.2, p.2), [("BadTree", C_BadTree), ("BadName", C_BadName), ("BadBox", C_BadBox), ("BadDeed", C_BadDeed), ("BadWay", C_BadWay)], some w⟩) hC hcf fr gc_DEEPEST gc_FIGURES gc_LETTERS gc_WORDS F_L_put_in (PySem.W.mg_of X G a_L_put_in) b_L_put_in (s := sp_L_put_in) len_L_put_in d_L_put_in
  have K_L_spoil_deed := kn_L_spoil_deed (base := base) (P := l.prog) (w := w) (cs := ⟨[⟨"Tree", C_Tree, fieldsOf "Tree"⟩, ⟨"Chart", C_Chart, fieldsOf "Chart"⟩], ([] : List ((Addr × Addr) × Str)).map fun p => (p.1.2, p.2), [("BadTree", C_BadTree), ("BadName", C_BadName), ("BadBox", C_BadBox), ("BadDeed", C_BadDeed), ("BadWay", C_BadWay)], some w⟩) hC hcf fr gc_DEEPEST gc_FIGURES gc_LETTERS gc_WORDS K_L_bad_deed K_L_put_in F_L_spoil_deed (PySem.W.mg_of X G a_L_spoil_deed) b_L_spoil_deed (s := sp_L_spoil_deed) len_L_spoil_deed d_L_spoil_deed
  have K_L_bad_ask := kn_L_bad_ask (base := base) (P := l.prog) (w := w) (cs := ⟨[⟨"Tree", C_Tree, fieldsOf "Tree"⟩, ⟨"Chart", C_Chart, fieldsOf "Chart"⟩], ([] : List ((Addr × Addr) × Str)).map fun p => (p.1.2, p.2), [("BadTree", C_BadTree), ("BadName", C_BadName), ("BadBox", C_BadBox), ("BadDeed", C_BadDeed), ("BadWay", C_BadWay)], some w⟩) hC hcf fr gc_DEEPEST gc_FIGURES gc_LETTERS gc_WORDS K_L_bad_term F_L_bad_ask (PySem.W.mg_of X G a_L_bad_ask) b_L_bad_ask (s := sp_L_bad_ask) len_L_bad_ask d_L_bad_ask
  have K_L_spoil_way := kn_L_spoil_way (base := base) (P := l.prog) (w := w) (cs := ⟨[⟨"Tree", C_Tree, fieldsOf "Tree"⟩, ⟨"Chart", C_Chart, fieldsOf "Chart"⟩], ([] : List ((Addr × Addr) × Str)).map fun p => (p.1.2, p.2), [("BadTree", C_BadTree), ("BadName", C_BadName), ("BadBox", C_BadBox), ("BadDeed", C_BadDeed), ("BadWay", C_BadWay)], some w⟩) hC hcf fr gc_DEEPEST gc_FIGURES gc_LETTERS gc_WORDS K_L_bad_name K_L_put_in K_L_bad_ask F_L_spoil_way (PySem.W.mg_of X G a_L_spoil_way) b_L_spoil_way (s := sp_L_spoil_way) len_L_spoil_way d_L_spoil_way
  have K_L_spoil_2 := kn_L_spoil_2 (base := base) (P := l.prog) (w := w) (cs := ⟨[⟨"Tree", C_Tree, fieldsOf "Tree"⟩, ⟨"Chart", C_Chart, fieldsOf "Chart"⟩], ([] : List ((Addr × Addr) × Str)).map fun p => (p.1.2, p.2), [("BadTree", C_BadTree), ("BadName", C_BadName), ("BadBox", C_BadBox), ("BadDeed", C_BadDeed), ("BadWay", C_BadWay)], some w⟩) hC hcf fr gc_DEEPEST gc_FIGURES gc_LETTERS gc_WORDS K_L_spoil_tree K_L_spoil_name K_L_spoil_box K_L_spoil_deed K_L_spoil_way F_L_spoil_2 (PySem.W.mg_of X G a_L_spoil_2) b_L_spoil_2 (s := sp_L_spoil_2) len_L_spoil_2 d_L_spoil_2
  have K_aboveG := kn_aboveG (base := base) (P := l.prog) (w := w) (cs := ⟨[⟨"Tree", C_Tree, fieldsOf "Tree"⟩, ⟨"Chart", C_Chart, fieldsOf "Chart"⟩], ([] : List ((Addr × Addr) × Str)).map fun p => (p.1.2, p.2), [("BadTree", C_BadTree), ("BadName", C_BadName), ("BadBox", C_BadBox), ("BadDeed", C_BadDeed), ("BadWay", C_BadWay)], some w⟩) hC hcf fr gc_DEEPEST gc_FIGURES gc_LETTERS gc_WORDS F_aboveG (PySem.W.mg_of X G a_aboveG) b_aboveG (s := sp_aboveG) len_aboveG d_aboveG
  have K_depthG := kn_depthG (base := base) (P := l.prog) (w := w) (cs := ⟨[⟨"Tree", C_Tree, fieldsOf "Tree"⟩, ⟨"Chart", C_Chart, fieldsOf "Chart"⟩], ([] : List ((Addr × Addr) × Str)).map fun p => (p.1.2, p.2), [("BadTree", C_BadTree), ("BadName", C_BadName), ("BadBox", C_BadBox), ("BadDeed", C_BadDeed), ("BadWay", C_BadWay)], some w⟩) hC hcf fr gc_DEEPEST gc_FIGURES gc_LETTERS gc_WORDS K_aboveG F_depthG (PySem.W.mg_of X G a_depthG) b_depthG (s := sp_depthG) len_depthG d_depthG
  have K_look_at_numbersX := kn_look_at_numbersX (base := base) (P := l.prog) (w := w) (cs := ⟨[⟨"Tree", C_Tree, fieldsOf "Tree"⟩, ⟨"Chart", C_Chart, fieldsOf "Chart"⟩], ([] : List ((Addr × Addr) × Str)).map fun p => (p.1.2, p.2), [("BadTree", C_BadTree), ("BadName", C_BadName), ("BadBox", C_BadBox), ("BadDeed", C_BadDeed), ("BadWay", C_BadWay)], some w⟩) hC hcf fr gc_DEEPEST gc_FIGURES gc_LETTERS gc_WORDS K_aboveG K_depthG KX_BadTree F_look_at_numbersX (PySem.W.mg_of X G a_look_at_numbersX) b_look_at_numbersX (s := sp_look_at_numbersX) len_look_at_numbersX d_look_at_numbersX
  have K_inner := kn_inner (base := base) (P := l.prog) (w := w) (cs := ⟨[⟨"Tree", C_Tree, fieldsOf "Tree"⟩, ⟨"Chart", C_Chart, fieldsOf "Chart"⟩], ([] : List ((Addr × Addr) × Str)).map fun p => (p.1.2, p.2), [("BadTree", C_BadTree), ("BadName", C_BadName), ("BadBox", C_BadBox), ("BadDeed", C_BadDeed), ("BadWay", C_BadWay)], some w⟩) hC hcf fr gc_DEEPEST gc_FIGURES gc_LETTERS gc_WORDS F_inner (PySem.W.mg_of X G a_inner) b_inner (s := sp_inner) len_inner d_inner
  have K_look_at_kindsX := kn_look_at_kindsX (base := base) (P := l.prog) (w := w) (cs := ⟨[⟨"Tree", C_Tree, fieldsOf "Tree"⟩, ⟨"Chart", C_Chart, fieldsOf "Chart"⟩], ([] : List ((Addr × Addr) × Str)).map fun p => (p.1.2, p.2), [("BadTree", C_BadTree), ("BadName", C_BadName), ("BadBox", C_BadBox), ("BadDeed", C_BadDeed), ("BadWay", C_BadWay)], some w⟩) hC hcf fr gc_DEEPEST gc_FIGURES gc_LETTERS gc_WORDS K_inner KX_BadTree F_look_at_kindsX (PySem.W.mg_of X G a_look_at_kindsX) b_look_at_kindsX (s := sp_look_at_kindsX) len_look_at_kindsX d_look_at_kindsX
  have K_is_name := kn_is_name (base := base) (P := l.prog) (w := w) (cs := ⟨[⟨"Tree", C_Tree, fieldsOf "Tree"⟩, ⟨"Chart", C_Chart, fieldsOf "Chart"⟩], ([] : List ((Addr × Addr) × Str)).map fun p => (p.1.2, p.2), [("BadTree", C_BadTree), ("BadName", C_BadName), ("BadBox", C_BadBox), ("BadDeed", C_BadDeed), ("BadWay", C_BadWay)], some w⟩) hC hcf fr gc_DEEPEST gc_FIGURES gc_LETTERS gc_WORDS F_is_name (PySem.W.mg_of X G a_is_name) b_is_name (s := sp_is_name) len_is_name d_is_name
  have K_look_at_namesX := kn_look_at_namesX (base := base) (P := l.prog) (w := w) (cs := ⟨[⟨"Tree", C_Tree, fieldsOf "Tree"⟩, ⟨"Chart", C_Chart, fieldsOf "Chart"⟩], ([] : List ((Addr × Addr) × Str)).map fun p => (p.1.2, p.2), [("BadTree", C_BadTree), ("BadName", C_BadName), ("BadBox", C_BadBox), ("BadDeed", C_BadDeed), ("BadWay", C_BadWay)], some w⟩) hC hcf fr gc_DEEPEST gc_FIGURES gc_LETTERS gc_WORDS K_is_name KX_BadName F_look_at_namesX (PySem.W.mg_of X G a_look_at_namesX) b_look_at_namesX (s := sp_look_at_namesX) len_look_at_namesX d_look_at_namesX
  have K_in_boundsG := kn_in_boundsG (base := base) (P := l.prog) (w := w) (cs := ⟨[⟨"Tree", C_Tree, fieldsOf "Tree"⟩, ⟨"Chart", C_Chart, fieldsOf "Chart"⟩], ([] : List ((Addr × Addr) × Str)).map fun p => (p.1.2, p.2), [("BadTree", C_BadTree), ("BadName", C_BadName), ("BadBox", C_BadBox), ("BadDeed", C_BadDeed), ("BadWay", C_BadWay)], some w⟩) hC hcf fr gc_DEEPEST gc_FIGURES gc_LETTERS gc_WORDS F_in_boundsG (PySem.W.mg_of X G a_in_boundsG) b_in_boundsG (s := sp_in_boundsG) len_in_boundsG d_in_boundsG
  have K_look_at_boxesX := kn_look_at_boxesX (base := base) (P := l.prog) (w := w) (cs := ⟨[⟨"Tree", C_Tree, fieldsOf "Tree"⟩, ⟨"Chart", C_Chart, fieldsOf "Chart"⟩], ([] : List ((Addr × Addr) × Str)).map fun p => (p.1.2, p.2), [("BadTree", C_BadTree), ("BadName", C_BadName), ("BadBox", C_BadBox), ("BadDeed", C_BadDeed), ("BadWay", C_BadWay)], some w⟩) hC hcf fr gc_DEEPEST gc_FIGURES gc_LETTERS gc_WORDS K_is_name K_in_boundsG KX_BadBox F_look_at_boxesX (PySem.W.mg_of X G a_look_at_boxesX) b_look_at_boxesX (s := sp_look_at_boxesX) len_look_at_boxesX d_look_at_boxesX
  have K_right_termG := kn_right_termG (base := base) (P := l.prog) (w := w) (cs := ⟨[⟨"Tree", C_Tree, fieldsOf "Tree"⟩, ⟨"Chart", C_Chart, fieldsOf "Chart"⟩], ([] : List ((Addr × Addr) × Str)).map fun p => (p.1.2, p.2), [("BadTree", C_BadTree), ("BadName", C_BadName), ("BadBox", C_BadBox), ("BadDeed", C_BadDeed), ("BadWay", C_BadWay)], some w⟩) hC hcf fr gc_DEEPEST gc_FIGURES gc_LETTERS gc_WORDS K_in_boundsG F_right_termG (PySem.W.mg_of X G a_right_termG) b_right_termG (s := sp_right_termG) len_right_termG d_right_termG
  have K_right_deedG := kn_right_deedG (base := base) (P := l.prog) (w := w) (cs := ⟨[⟨"Tree", C_Tree, fieldsOf "Tree"⟩, ⟨"Chart", C_Chart, fieldsOf "Chart"⟩], ([] : List ((Addr × Addr) × Str)).map fun p => (p.1.2, p.2), [("BadTree", C_BadTree), ("BadName", C_BadName), ("BadBox", C_BadBox), ("BadDeed", C_BadDeed), ("BadWay", C_BadWay)], some w⟩) hC hcf fr gc_DEEPEST gc_FIGURES gc_LETTERS gc_WORDS K_right_termG K_is_name F_right_deedG (PySem.W.mg_of X G a_right_deedG) b_right_deedG (s := sp_right_deedG) len_right_deedG d_right_deedG
  have K_look_at_deedsX := kn_look_at_deedsX (base := base) (P := l.prog) (w := w) (cs := ⟨[⟨"Tree", C_Tree, fieldsOf "Tree"⟩, ⟨"Chart", C_Chart, fieldsOf "Chart"⟩], ([] : List ((Addr × Addr) × Str)).map fun p => (p.1.2, p.2), [("BadTree", C_BadTree), ("BadName", C_BadName), ("BadBox", C_BadBox), ("BadDeed", C_BadDeed), ("BadWay", C_BadWay)], some w⟩) hC hcf fr gc_DEEPEST gc_FIGURES gc_LETTERS gc_WORDS K_right_deedG KX_BadDeed F_look_at_deedsX (PySem.W.mg_of X G a_look_at_deedsX) b_look_at_deedsX (s := sp_look_at_deedsX) len_look_at_deedsX d_look_at_deedsX
  have K_right_askG := kn_right_askG (base := base) (P := l.prog) (w := w) (cs := ⟨[⟨"Tree", C_Tree, fieldsOf "Tree"⟩, ⟨"Chart", C_Chart, fieldsOf "Chart"⟩], ([] : List ((Addr × Addr) × Str)).map fun p => (p.1.2, p.2), [("BadTree", C_BadTree), ("BadName", C_BadName), ("BadBox", C_BadBox), ("BadDeed", C_BadDeed), ("BadWay", C_BadWay)], some w⟩) hC hcf fr gc_DEEPEST gc_FIGURES gc_LETTERS gc_WORDS K_right_termG F_right_askG (PySem.W.mg_of X G a_right_askG) b_right_askG (s := sp_right_askG) len_right_askG d_right_askG
  have K_look_at_waysX := kn_look_at_waysX (base := base) (P := l.prog) (w := w) (cs := ⟨[⟨"Tree", C_Tree, fieldsOf "Tree"⟩, ⟨"Chart", C_Chart, fieldsOf "Chart"⟩], ([] : List ((Addr × Addr) × Str)).map fun p => (p.1.2, p.2), [("BadTree", C_BadTree), ("BadName", C_BadName), ("BadBox", C_BadBox), ("BadDeed", C_BadDeed), ("BadWay", C_BadWay)], some w⟩) hC hcf fr gc_DEEPEST gc_FIGURES gc_LETTERS gc_WORDS K_is_name K_right_askG KX_BadWay F_look_at_waysX (PySem.W.mg_of X G a_look_at_waysX) b_look_at_waysX (s := sp_look_at_waysX) len_look_at_waysX d_look_at_waysX
  have K_lookedX := kn_lookedX (base := base) (P := l.prog) (w := w) (cs := ⟨[⟨"Tree", C_Tree, fieldsOf "Tree"⟩, ⟨"Chart", C_Chart, fieldsOf "Chart"⟩], ([] : List ((Addr × Addr) × Str)).map fun p => (p.1.2, p.2), [("BadTree", C_BadTree), ("BadName", C_BadName), ("BadBox", C_BadBox), ("BadDeed", C_BadDeed), ("BadWay", C_BadWay)], some w⟩) hC hcf fr gc_DEEPEST gc_FIGURES gc_LETTERS gc_WORDS K_look_at_numbersX K_look_at_kindsX K_look_at_namesX K_look_at_boxesX K_look_at_deedsX K_look_at_waysX F_lookedX (PySem.W.mg_of X G a_lookedX) b_lookedX (s := sp_lookedX) len_lookedX d_lookedX
  have K_L_refusal := kn_L_refusal (base := base) (P := l.prog) (w := w) (cs := ⟨[⟨"Tree", C_Tree, fieldsOf "Tree"⟩, ⟨"Chart", C_Chart, fieldsOf "Chart"⟩], ([] : List ((Addr × Addr) × Str)).map fun p => (p.1.2, p.2), [("BadTree", C_BadTree), ("BadName", C_BadName), ("BadBox", C_BadBox), ("BadDeed", C_BadDeed), ("BadWay", C_BadWay)], some w⟩) hC hcf fr gc_DEEPEST gc_FIGURES gc_LETTERS gc_WORDS K_lookedX KC_BadTree KC_BadName KC_BadBox KC_BadDeed KC_BadWay F_L_refusal (PySem.W.mg_of X G a_L_refusal) b_L_refusal (s := sp_L_refusal) len_L_refusal d_L_refusal
  have K_L_bases_2 := kn_L_bases_2 (base := base) (P := l.prog) (w := w) (cs := ⟨[⟨"Tree", C_Tree, fieldsOf "Tree"⟩, ⟨"Chart", C_Chart, fieldsOf "Chart"⟩], ([] : List ((Addr × Addr) × Str)).map fun p => (p.1.2, p.2), [("BadTree", C_BadTree), ("BadName", C_BadName), ("BadBox", C_BadBox), ("BadDeed", C_BadDeed), ("BadWay", C_BadWay)], some w⟩) hC hcf fr gc_DEEPEST gc_FIGURES gc_LETTERS gc_WORDS K_lookedX KM_MoodError (PySem.W.mg_of X G aC_MoodError) KMI_ValueError (PySem.W.mg_of X G aC_BadTree) KMI_BadTree (PySem.W.mg_of X G aC_BadName) KMI_BadName (PySem.W.mg_of X G aC_BadBox) KMI_BadBox (PySem.W.mg_of X G aC_BadDeed) KMI_BadDeed (PySem.W.mg_of X G aC_BadWay) KMI_BadWay F_L_bases_2 (PySem.W.mg_of X G a_L_bases_2) b_L_bases_2 (s := sp_L_bases_2) len_L_bases_2 d_L_bases_2
  exact FnOk.imp (fn_pure F_law sc_law_57 (s := sp_law_57) len_law_57 (fun _ _ _ _ _ _ hr => vs_law_57 (cs := ⟨[⟨"Tree", C_Tree, fieldsOf "Tree"⟩, ⟨"Chart", C_Chart, fieldsOf "Chart"⟩], ([] : List ((Addr × Addr) × Str)).map fun p => (p.1.2, p.2), [("BadTree", C_BadTree), ("BadName", C_BadName), ("BadBox", C_BadBox), ("BadDeed", C_BadDeed), ("BadWay", C_BadWay)], some w⟩) hC hcf fr gc_DEEPEST gc_FIGURES gc_LETTERS gc_WORDS K_L_partsM K_L_cell_at K_L_spoil_2 K_L_chart_8 K_L_refusal K_L_bases_2 hr) d_law_57) fun _ _ _ _ h => top_imp (cs := ⟨[⟨"Tree", C_Tree, fieldsOf "Tree"⟩, ⟨"Chart", C_Chart, fieldsOf "Chart"⟩], ([] : List ((Addr × Addr) × Str)).map fun p => (p.1.2, p.2), [("BadTree", C_BadTree), ("BadName", C_BadName), ("BadBox", C_BadBox), ("BadDeed", C_BadDeed), ("BadWay", C_BadWay)], some w⟩) h
theorem walk {l : PySem.W.OpenLaw} {q : Program} {loose : List Str} {XP : (Str → Option Value) → Heap → Prop} {YP : World → Heap → Prop} {d : DefRec} {K : Params → PySem.W.Frag} (hn : l.most = some 63) (hdf : d.params.defaults = [])
    (hY : ∀ (w : World) (h : Heap), YP w h → (K w.params).In h)
    (F : ∀ (w : World) (mg : Str → Option Value) (fa : Addr) (h : Heap), (K w.params).In h → h.Ns mainGlobals mg → mg d.name = some (.ref fa) →
      ∃ fd : FuncData, (∀ (s : Shared) (u : Value), BindsTo s fd ⟨[u], []⟩ [("script", u)]) ∧ ∀ base : Heap, (K w.params).In base → base.Ns mainGlobals mg → FnOk l.prog w (K w.params) mg base CX0 7 fa fd ["script"] (spTop (K w.params) [] 63)) :
    PySem.W.WalkO q loose XP YP l.row.toRowW d [] (fun f vs => PySem.call f vs) :=
  L2.walk_of (n := 63) (k := 7) (x := "script") (CX := fun _ => CX0) (sp := fun w => spTop (K w.params) [] 63) hn (by decide) hdf ⟨rfl, by decide, by decide⟩ hY F (fun _ _ a ns hl _ hS => ⟨fun p hp => (by cases hp), a, ns, rfl, hS, hl, fun _ => rfl⟩) fun _ _ _ _ _ z => z
end VL
open PySem PySem.W PyProof.Rows in
set_option maxRecDepth 100000 in
set_option maxHeartbeats 0 in
theorem PySem.Challenge.cw_moodtree_k17_the_first_refusal_is_told_holds : PySem.Challenge.rw_moodtree_k17_the_first_refusal_is_told.Holds := by
  w_on; o_law; k_head; (case hw => w_witness2)
  k_fill
  refine VL.walk (l := PySem.Challenge.rw_moodtree_k17_the_first_refusal_is_told) rfl rfl (fun w h Y => PySem.W.kIn_of Y) ?F
  case F =>
    intro w mg fa h KX G hmg
    refine' VL.all_mk KX G hmg ?aC_Tree ?pg_Tree ?hd_Tree ?po_Tree ?sa_Tree ?mk_Tree ?kc_Tree ?n_Tree_kinds ?n_Tree_elders ?n_Tree_starts ?aC_Chart ?pg_Chart ?hd_Chart ?po_Chart ?sa_Chart ?mk_Chart ?kc_Chart ?n_Chart_boxes ?n_Chart_names ?n_Chart_tree ?n_Chart_ins ?n_Chart_outs ?n_Chart_ways ?isg ?ist ?aC_BadTree ?aC_BadName ?aC_BadBox ?aC_BadDeed ?aC_BadWay ?aC_MoodError ?xs_BadTree ?xt_BadTree ?xd_BadTree ?xs_BadName ?xt_BadName ?xd_BadName ?xs_BadBox ?xt_BadBox ?xd_BadBox ?xs_BadDeed ?xt_BadDeed ?xd_BadDeed ?xs_BadWay ?xt_BadWay ?xd_BadWay ?xs_MoodError ?xt_MoodError ?xd_MoodError ?xk_BadTree ?xe_BadTree ?xb_BadTree_MoodError ?xb_BadTree_BadTree ?xb_BadTree_BadName ?xb_BadTree_BadBox ?xb_BadTree_BadDeed ?xb_BadTree_BadWay ?xg_BadTree ?xh_BadTree ?xa_BadTree ?xm_BadTree ?xk_BadName ?xe_BadName ?xb_BadName_MoodError ?xb_BadName_BadName ?xb_BadName_BadTree ?xb_BadName_BadBox ?xb_BadName_BadDeed ?xb_BadName_BadWay ?xg_BadName ?xh_BadName ?xa_BadName ?xm_BadName ?xk_BadBox ?xe_BadBox ?xb_BadBox_MoodError ?xb_BadBox_BadBox ?xb_BadBox_BadTree ?xb_BadBox_BadName ?xb_BadBox_BadDeed ?xb_BadBox_BadWay ?xg_BadBox ?xh_BadBox ?xa_BadBox ?xm_BadBox ?xk_BadDeed ?xe_BadDeed ?xb_BadDeed_MoodError ?xb_BadDeed_BadDeed ?xb_BadDeed_BadTree ?xb_BadDeed_BadName ?xb_BadDeed_BadBox ?xb_BadDeed_BadWay ?xg_BadDeed ?xh_BadDeed ?xa_BadDeed ?xm_BadDeed ?xk_BadWay ?xe_BadWay ?xb_BadWay_MoodError ?xb_BadWay_BadWay ?xb_BadWay_BadTree ?xb_BadWay_BadName ?xb_BadWay_BadBox ?xb_BadWay_BadDeed ?xg_BadWay ?xh_BadWay ?xa_BadWay ?xm_BadWay ?xi_BadTree_ValueError ?xi_BadName_ValueError ?xi_BadBox_ValueError ?xi_BadDeed_ValueError ?xi_BadWay_ValueError ?xp_BadTree ?xq_BadTree ?xo_BadTree_BadTree ?xo_BadName_BadTree ?xo_BadBox_BadTree ?xo_BadDeed_BadTree ?xo_BadWay_BadTree ?xp_BadName ?xq_BadName ?xo_BadTree_BadName ?xo_BadName_BadName ?xo_BadBox_BadName ?xo_BadDeed_BadName ?xo_BadWay_BadName ?xp_BadBox ?xq_BadBox ?xo_BadTree_BadBox ?xo_BadName_BadBox ?xo_BadBox_BadBox ?xo_BadDeed_BadBox ?xo_BadWay_BadBox ?xp_BadDeed ?xq_BadDeed ?xo_BadTree_BadDeed ?xo_BadName_BadDeed ?xo_BadBox_BadDeed ?xo_BadDeed_BadDeed ?xo_BadWay_BadDeed ?xp_BadWay ?xq_BadWay ?xo_BadTree_BadWay ?xo_BadName_BadWay ?xo_BadBox_BadWay ?xo_BadDeed_BadWay ?xo_BadWay_BadWay ?a_L_above ?l_L_above ?c_L_above ?k_L_above ?a_L_cell_at ?l_L_cell_at ?c_L_cell_at ?k_L_cell_at ?a_L_elders_6 ?l_L_elders_6 ?c_L_elders_6 ?k_L_elders_6 ?a_L_kinds_3 ?l_L_kinds_3 ?c_L_kinds_3 ?k_L_kinds_3 ?a_L_names ?l_L_names ?c_L_names ?k_L_names ?a_L_far_2 ?l_L_far_2 ?c_L_far_2 ?k_L_far_2 ?a_L_term_3 ?l_L_term_3 ?c_L_term_3 ?k_L_term_3 ?a_L_deed_2 ?l_L_deed_2 ?c_L_deed_2 ?k_L_deed_2 ?a_L_rows_3 ?l_L_rows_3 ?c_L_rows_3 ?k_L_rows_3 ?a_L_ask_3 ?l_L_ask_3 ?c_L_ask_3 ?k_L_ask_3 ?a_L_way_2 ?l_L_way_2 ?c_L_way_2 ?k_L_way_2 ?a_L_partsM ?l_L_partsM ?c_L_partsM ?k_L_partsM ?a_Tree_init ?i_Tree_init ?l_Tree_init ?c_Tree_init ?k_Tree_init ?a_Chart_init ?i_Chart_init ?l_Chart_init ?c_Chart_init ?k_Chart_init ?a_L_chart_8 ?l_L_chart_8 ?c_L_chart_8 ?k_L_chart_8 ?a_L_spoil_tree ?l_L_spoil_tree ?c_L_spoil_tree ?k_L_spoil_tree ?a_L_bad_name ?l_L_bad_name ?c_L_bad_name ?k_L_bad_name ?a_L_spoil_name ?l_L_spoil_name ?c_L_spoil_name ?k_L_spoil_name ?a_L_spoil_box ?l_L_spoil_box ?c_L_spoil_box ?k_L_spoil_box ?a_L_bad_term ?l_L_bad_term ?c_L_bad_term ?k_L_bad_term ?a_L_bad_deed ?l_L_bad_deed ?c_L_bad_deed ?k_L_bad_deed ?a_L_put_in ?l_L_put_in ?c_L_put_in ?k_L_put_in ?a_L_spoil_deed ?l_L_spoil_deed ?c_L_spoil_deed ?k_L_spoil_deed ?a_L_bad_ask ?l_L_bad_ask ?c_L_bad_ask ?k_L_bad_ask ?a_L_spoil_way ?l_L_spoil_way ?c_L_spoil_way ?k_L_spoil_way ?a_L_spoil_2 ?l_L_spoil_2 ?c_L_spoil_2 ?k_L_spoil_2 ?a_aboveG ?l_aboveG ?c_aboveG ?k_aboveG ?a_depthG ?l_depthG ?c_depthG ?k_depthG ?a_look_at_numbersX ?l_look_at_numbersX ?c_look_at_numbersX ?k_look_at_numbersX ?a_inner ?l_inner ?c_inner ?k_inner ?a_look_at_kindsX ?l_look_at_kindsX ?c_look_at_kindsX ?k_look_at_kindsX ?a_is_name ?l_is_name ?c_is_name ?k_is_name ?a_look_at_namesX ?l_look_at_namesX ?c_look_at_namesX ?k_look_at_namesX ?a_in_boundsG ?l_in_boundsG ?c_in_boundsG ?k_in_boundsG ?a_look_at_boxesX ?l_look_at_boxesX ?c_look_at_boxesX ?k_look_at_boxesX ?a_right_termG ?l_right_termG ?c_right_termG ?k_right_termG ?a_right_deedG ?l_right_deedG ?c_right_deedG ?k_right_deedG ?a_look_at_deedsX ?l_look_at_deedsX ?c_look_at_deedsX ?k_look_at_deedsX ?a_right_askG ?l_right_askG ?c_right_askG ?k_right_askG ?a_look_at_waysX ?l_look_at_waysX ?c_look_at_waysX ?k_look_at_waysX ?a_lookedX ?l_lookedX ?c_lookedX ?k_lookedX ?a_L_refusal ?l_L_refusal ?c_L_refusal ?k_L_refusal ?a_L_bases_2 ?l_L_bases_2 ?c_L_bases_2 ?k_L_bases_2 ?a_law_57 ?l_law_57 ?c_law_57 ?k_law_57 ?z_ValueError ?z_int ?z_isinstance ?z_len ?z_list ?z_range ?z_sorted ?z_str ?z_tuple ?g_DEEPEST ?g_FIGURES ?g_LETTERS ?g_WORDS ?l_WORDS
    (case aC_Tree => k_is)
    (case pg_Tree => k_is)
    (case hd_Tree => k_is)
    (case po_Tree => k_is)
    (case sa_Tree => k_is)
    (case mk_Tree => k_is)
    (case kc_Tree => k_is)
    (case n_Tree_kinds => k_is)
    (case n_Tree_elders => k_is)
    (case n_Tree_starts => k_is)
    (case aC_Chart => k_is)
    (case pg_Chart => k_is)
    (case hd_Chart => k_is)
    (case po_Chart => k_is)
    (case sa_Chart => k_is)
    (case mk_Chart => k_is)
    (case kc_Chart => k_is)
    (case n_Chart_boxes => k_is)
    (case n_Chart_names => k_is)
    (case n_Chart_tree => k_is)
    (case n_Chart_ins => k_is)
    (case n_Chart_outs => k_is)
    (case n_Chart_ways => k_is)
    (case isg => k_is)
    (case ist => k_is)
    (case aC_BadTree => k_is)
    (case aC_BadName => k_is)
    (case aC_BadBox => k_is)
    (case aC_BadDeed => k_is)
    (case aC_BadWay => k_is)
    (case aC_MoodError => k_is)
    (case xs_BadTree => k_is)
    (case xt_BadTree => k_is)
    (case xd_BadTree => k_is)
    (case xs_BadName => k_is)
    (case xt_BadName => k_is)
    (case xd_BadName => k_is)
    (case xs_BadBox => k_is)
    (case xt_BadBox => k_is)
    (case xd_BadBox => k_is)
    (case xs_BadDeed => k_is)
    (case xt_BadDeed => k_is)
    (case xd_BadDeed => k_is)
    (case xs_BadWay => k_is)
    (case xt_BadWay => k_is)
    (case xd_BadWay => k_is)
    (case xs_MoodError => k_is)
    (case xt_MoodError => k_is)
    (case xd_MoodError => k_is)
    (case xk_BadTree => k_is)
    (case xe_BadTree => k_exc)
    (case xb_BadTree_MoodError => k_is)
    (case xb_BadTree_BadTree => k_is)
    (case xb_BadTree_BadName => k_is)
    (case xb_BadTree_BadBox => k_is)
    (case xb_BadTree_BadDeed => k_is)
    (case xb_BadTree_BadWay => k_is)
    (case xg_BadTree => k_is)
    (case xh_BadTree => k_is)
    (case xa_BadTree => k_is)
    (case xm_BadTree => k_is)
    (case xk_BadName => k_is)
    (case xe_BadName => k_exc)
    (case xb_BadName_MoodError => k_is)
    (case xb_BadName_BadName => k_is)
    (case xb_BadName_BadTree => k_is)
    (case xb_BadName_BadBox => k_is)
    (case xb_BadName_BadDeed => k_is)
    (case xb_BadName_BadWay => k_is)
    (case xg_BadName => k_is)
    (case xh_BadName => k_is)
    (case xa_BadName => k_is)
    (case xm_BadName => k_is)
    (case xk_BadBox => k_is)
    (case xe_BadBox => k_exc)
    (case xb_BadBox_MoodError => k_is)
    (case xb_BadBox_BadBox => k_is)
    (case xb_BadBox_BadTree => k_is)
    (case xb_BadBox_BadName => k_is)
    (case xb_BadBox_BadDeed => k_is)
    (case xb_BadBox_BadWay => k_is)
    (case xg_BadBox => k_is)
    (case xh_BadBox => k_is)
    (case xa_BadBox => k_is)
    (case xm_BadBox => k_is)
    (case xk_BadDeed => k_is)
    (case xe_BadDeed => k_exc)
    (case xb_BadDeed_MoodError => k_is)
    (case xb_BadDeed_BadDeed => k_is)
    (case xb_BadDeed_BadTree => k_is)
    (case xb_BadDeed_BadName => k_is)
    (case xb_BadDeed_BadBox => k_is)
    (case xb_BadDeed_BadWay => k_is)
    (case xg_BadDeed => k_is)
    (case xh_BadDeed => k_is)
    (case xa_BadDeed => k_is)
    (case xm_BadDeed => k_is)
    (case xk_BadWay => k_is)
    (case xe_BadWay => k_exc)
    (case xb_BadWay_MoodError => k_is)
    (case xb_BadWay_BadWay => k_is)
    (case xb_BadWay_BadTree => k_is)
    (case xb_BadWay_BadName => k_is)
    (case xb_BadWay_BadBox => k_is)
    (case xb_BadWay_BadDeed => k_is)
    (case xg_BadWay => k_is)
    (case xh_BadWay => k_is)
    (case xa_BadWay => k_is)
    (case xm_BadWay => k_is)
    (case xi_BadTree_ValueError => k_is)
    (case xi_BadName_ValueError => k_is)
    (case xi_BadBox_ValueError => k_is)
    (case xi_BadDeed_ValueError => k_is)
    (case xi_BadWay_ValueError => k_is)
    (case xp_BadTree => k_is)
    (case xq_BadTree => k_is)
    (case xo_BadTree_BadTree => k_is)
    (case xo_BadName_BadTree => k_is)
    (case xo_BadBox_BadTree => k_is)
    (case xo_BadDeed_BadTree => k_is)
    (case xo_BadWay_BadTree => k_is)
    (case xp_BadName => k_is)
    (case xq_BadName => k_is)
    (case xo_BadTree_BadName => k_is)
    (case xo_BadName_BadName => k_is)
    (case xo_BadBox_BadName => k_is)
    (case xo_BadDeed_BadName => k_is)
    (case xo_BadWay_BadName => k_is)
    (case xp_BadBox => k_is)
    (case xq_BadBox => k_is)
    (case xo_BadTree_BadBox => k_is)
    (case xo_BadName_BadBox => k_is)
    (case xo_BadBox_BadBox => k_is)
    (case xo_BadDeed_BadBox => k_is)
    (case xo_BadWay_BadBox => k_is)
    (case xp_BadDeed => k_is)
    (case xq_BadDeed => k_is)
    (case xo_BadTree_BadDeed => k_is)
    (case xo_BadName_BadDeed => k_is)
    (case xo_BadBox_BadDeed => k_is)
    (case xo_BadDeed_BadDeed => k_is)
    (case xo_BadWay_BadDeed => k_is)
    (case xp_BadWay => k_is)
    (case xq_BadWay => k_is)
    (case xo_BadTree_BadWay => k_is)
    (case xo_BadName_BadWay => k_is)
    (case xo_BadBox_BadWay => k_is)
    (case xo_BadDeed_BadWay => k_is)
    (case xo_BadWay_BadWay => k_is)
    (case a_L_above => k_is)
    (case l_L_above => k_is)
    (case c_L_above => k_is)
    (case k_L_above => k_is)
    (case a_L_cell_at => k_is)
    (case l_L_cell_at => k_is)
    (case c_L_cell_at => k_is)
    (case k_L_cell_at => k_is)
    (case a_L_elders_6 => k_is)
    (case l_L_elders_6 => k_is)
    (case c_L_elders_6 => k_is)
    (case k_L_elders_6 => k_is)
    (case a_L_kinds_3 => k_is)
    (case l_L_kinds_3 => k_is)
    (case c_L_kinds_3 => k_is)
    (case k_L_kinds_3 => k_is)
    (case a_L_names => k_is)
    (case l_L_names => k_is)
    (case c_L_names => k_is)
    (case k_L_names => k_is)
    (case a_L_far_2 => k_is)
    (case l_L_far_2 => k_is)
    (case c_L_far_2 => k_is)
    (case k_L_far_2 => k_is)
    (case a_L_term_3 => k_is)
    (case l_L_term_3 => k_is)
    (case c_L_term_3 => k_is)
    (case k_L_term_3 => k_is)
    (case a_L_deed_2 => k_is)
    (case l_L_deed_2 => k_is)
    (case c_L_deed_2 => k_is)
    (case k_L_deed_2 => k_is)
    (case a_L_rows_3 => k_is)
    (case l_L_rows_3 => k_is)
    (case c_L_rows_3 => k_is)
    (case k_L_rows_3 => k_is)
    (case a_L_ask_3 => k_is)
    (case l_L_ask_3 => k_is)
    (case c_L_ask_3 => k_is)
    (case k_L_ask_3 => k_is)
    (case a_L_way_2 => k_is)
    (case l_L_way_2 => k_is)
    (case c_L_way_2 => k_is)
    (case k_L_way_2 => k_is)
    (case a_L_partsM => k_is)
    (case l_L_partsM => k_is)
    (case c_L_partsM => k_is)
    (case k_L_partsM => k_is)
    (case a_Tree_init => k_is)
    (case i_Tree_init => k_is)
    (case l_Tree_init => k_is)
    (case c_Tree_init => k_is)
    (case k_Tree_init => k_is)
    (case a_Chart_init => k_is)
    (case i_Chart_init => k_is)
    (case l_Chart_init => k_is)
    (case c_Chart_init => k_is)
    (case k_Chart_init => k_is)
    (case a_L_chart_8 => k_is)
    (case l_L_chart_8 => k_is)
    (case c_L_chart_8 => k_is)
    (case k_L_chart_8 => k_is)
    (case a_L_spoil_tree => k_is)
    (case l_L_spoil_tree => k_is)
    (case c_L_spoil_tree => k_is)
    (case k_L_spoil_tree => k_is)
    (case a_L_bad_name => k_is)
    (case l_L_bad_name => k_is)
    (case c_L_bad_name => k_is)
    (case k_L_bad_name => k_is)
    (case a_L_spoil_name => k_is)
    (case l_L_spoil_name => k_is)
    (case c_L_spoil_name => k_is)
    (case k_L_spoil_name => k_is)
    (case a_L_spoil_box => k_is)
    (case l_L_spoil_box => k_is)
    (case c_L_spoil_box => k_is)
    (case k_L_spoil_box => k_is)
    (case a_L_bad_term => k_is)
    (case l_L_bad_term => k_is)
    (case c_L_bad_term => k_is)
    (case k_L_bad_term => k_is)
    (case a_L_bad_deed => k_is)
    (case l_L_bad_deed => k_is)
    (case c_L_bad_deed => k_is)
    (case k_L_bad_deed => k_is)
    (case a_L_put_in => k_is)
    (case l_L_put_in => k_is)
    (case c_L_put_in => k_is)
    (case k_L_put_in => k_is)
    (case a_L_spoil_deed => k_is)
    (case l_L_spoil_deed => k_is)
    (case c_L_spoil_deed => k_is)
    (case k_L_spoil_deed => k_is)
    (case a_L_bad_ask => k_is)
    (case l_L_bad_ask => k_is)
    (case c_L_bad_ask => k_is)
    (case k_L_bad_ask => k_is)
    (case a_L_spoil_way => k_is)
    (case l_L_spoil_way => k_is)
    (case c_L_spoil_way => k_is)
    (case k_L_spoil_way => k_is)
    (case a_L_spoil_2 => k_is)
    (case l_L_spoil_2 => k_is)
    (case c_L_spoil_2 => k_is)
    (case k_L_spoil_2 => k_is)
    (case a_aboveG => k_is)
    (case l_aboveG => k_is)
    (case c_aboveG => k_is)
    (case k_aboveG => k_is)
    (case a_depthG => k_is)
    (case l_depthG => k_is)
    (case c_depthG => k_is)
    (case k_depthG => k_is)
    (case a_look_at_numbersX => k_is)
    (case l_look_at_numbersX => k_is)
    (case c_look_at_numbersX => k_is)
    (case k_look_at_numbersX => k_is)
    (case a_inner => k_is)
    (case l_inner => k_is)
    (case c_inner => k_is)
    (case k_inner => k_is)
    (case a_look_at_kindsX => k_is)
    (case l_look_at_kindsX => k_is)
    (case c_look_at_kindsX => k_is)
    (case k_look_at_kindsX => k_is)
    (case a_is_name => k_is)
    (case l_is_name => k_is)
    (case c_is_name => k_is)
    (case k_is_name => k_is)
    (case a_look_at_namesX => k_is)
    (case l_look_at_namesX => k_is)
    (case c_look_at_namesX => k_is)
    (case k_look_at_namesX => k_is)
    (case a_in_boundsG => k_is)
    (case l_in_boundsG => k_is)
    (case c_in_boundsG => k_is)
    (case k_in_boundsG => k_is)
    (case a_look_at_boxesX => k_is)
    (case l_look_at_boxesX => k_is)
    (case c_look_at_boxesX => k_is)
    (case k_look_at_boxesX => k_is)
    (case a_right_termG => k_is)
    (case l_right_termG => k_is)
    (case c_right_termG => k_is)
    (case k_right_termG => k_is)
    (case a_right_deedG => k_is)
    (case l_right_deedG => k_is)
    (case c_right_deedG => k_is)
    (case k_right_deedG => k_is)
    (case a_look_at_deedsX => k_is)
    (case l_look_at_deedsX => k_is)
    (case c_look_at_deedsX => k_is)
    (case k_look_at_deedsX => k_is)
    (case a_right_askG => k_is)
    (case l_right_askG => k_is)
    (case c_right_askG => k_is)
    (case k_right_askG => k_is)
    (case a_look_at_waysX => k_is)
    (case l_look_at_waysX => k_is)
    (case c_look_at_waysX => k_is)
    (case k_look_at_waysX => k_is)
    (case a_lookedX => k_is)
    (case l_lookedX => k_is)
    (case c_lookedX => k_is)
    (case k_lookedX => k_is)
    (case a_L_refusal => k_is)
    (case l_L_refusal => k_is)
    (case c_L_refusal => k_is)
    (case k_L_refusal => k_is)
    (case a_L_bases_2 => k_is)
    (case l_L_bases_2 => k_is)
    (case c_L_bases_2 => k_is)
    (case k_L_bases_2 => k_is)
    (case a_law_57 => k_is)
    (case l_law_57 => k_is)
    (case c_law_57 => k_is)
    (case k_law_57 => k_is)
    (case z_ValueError => k_is)
    (case z_int => k_is)
    (case z_isinstance => k_is)
    (case z_len => k_is)
    (case z_list => k_is)
    (case z_range => k_is)
    (case z_sorted => k_is)
    (case z_str => k_is)
    (case z_tuple => k_is)
    (case g_DEEPEST => k_is)
    (case g_FIGURES => k_is)
    (case g_LETTERS => k_is)
    (case g_WORDS => k_is)
    (case l_WORDS => k_is)
#print axioms PySem.Challenge.cw_moodtree_k17_the_first_refusal_is_told_holds
