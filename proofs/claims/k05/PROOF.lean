import PyProof.Rows.All
import Wide.All
import OpenK.AllK
import Wide.FinOn
import HandS.ForMost
import HandS.Wide
import HandS.TupAny
import HandS.TupMul
import HandS.Style
import HandS.Flow
import HandS.More
import HandS.Zip
import HandS.Set
import HandS.SetFor
import HandS.SortInts
import HandS.Strs
import HandS.Zip0
import KE.KDictZip
import HandS.Conv
import HandS.Defaults
import HandS.WordsExc
import HandS.Head0
import HandS.Head1
import HandS.Head2
import HandS.HeadEnd
import HandS.HeadHook1
import HandS.HeadHook2
import HandS.HeadHook3
import HandS.HeadHook4
import PySem.Challenge.RW_writtenahead_k05_whole_names_never_catch
set_option Elab.async false
set_option linter.all false
set_option autoImplicit false
set_option maxRecDepth 100000
set_option maxHeartbeats 4000000
/-! Fp0: data without addresses, memory by numbers, and how both stand in the abstract heap -/
namespace Fp
open PySem PySem.Spec PyProof.Rows L2

inductive D where
  | non | bl (b : Bool) | int (i : Int) | str (x : Str) | tup (ds : List D) | lst (ds : List D)
  | dct (ks : List Key) (ds : List D) | scr (is : List Int) | ref (n : Nat)
instance : Inhabited D := ⟨.non⟩

inductive Ob where
  | lst (ds : List D) | dct (kvs : List (Key × D))
abbrev Mem := List Ob

inductive R (α : Type) where
  | ok (a : α) | exc (c : Str) (a : D) (m : Mem) | bad
def R.bind {α β : Type} (r : R α) (f : α → R β) : R β :=
  match r with
  | .ok a => f a
  | .exc c a m => .exc c a m
  | .bad => .bad
@[simp] theorem R.bind_ok {α β : Type} (a : α) (f : α → R β) : R.bind (.ok a) f = f a := rfl
@[simp] theorem R.bind_bad {α β : Type} (f : α → R β) : R.bind .bad f = .bad := rfl
@[simp] theorem R.bind_exc {α β : Type} (c : Str) (a : D) (m : Mem) (f : α → R β) : R.bind (.exc c a m) f = .exc c a m := rfl

abbrev RD := R (D × Mem)
abbrev EnvD := List (Option D)

/-! ### how data stand in the heap -/
/-- the written part, and addresses that are spoken for: lists and dicts that are being made -/
structure KK where
  K : PySem.W.Frag
  ps : List Addr
def KL (K : PySem.W.Frag) (a : Addr) (xs : List V) : Prop :=
  ∃ (o : Obj) (its : Array Value) (n : Nat), K.lookup a = some o ∧ o.cls = .type "list" ∧ o.dict = none ∧ o.data = .seq its n ∧ its.size ≤ sizeLine ∧ Vals xs its.toList
section
variable (K : KK)
mutual
def Rep (φ : List Addr) (H : Hp) : D → V → Prop
  | .non, v => v = .non
  | .bl b, v => v = .bl b
  | .int i, v => v = .int i
  | .str x, v => v = .str x
  | .tup ds, v => ∃ a vs, v = .ref a ∧ SqT K.K H a vs ∧ Reps φ H ds vs
  | .lst ds, v => ∃ a vs, v = .ref a ∧ H a = some (.lst vs) ∧ (a ∉ φ ∧ a ∉ K.ps) ∧ Reps φ H ds vs
  | .dct ks ds, v => ∃ a vs, v = .ref a ∧ H a = some (.dK (ks.zip vs)) ∧ (a ∉ φ ∧ a ∉ K.ps) ∧ ks.length = vs.length ∧ Reps φ H ds vs
  | .scr is, v => ∃ a, v = .ref a ∧ ((∃ o, H a = some (.frz o (.lst (is.map V.int)))) ∨ KL K.K a (is.map V.int))
  | .ref n, v => ∃ a, v = .ref a ∧ φ[n]? = some a
def Reps (φ : List Addr) (H : Hp) : List D → List V → Prop
  | [], vs => vs = []
  | d :: ds, vs => ∃ v r, vs = v :: r ∧ Rep φ H d v ∧ Reps φ H ds r
end
def RepO (φ : List Addr) (H : Hp) (a : Addr) : Ob → Prop
  | .lst ds => ∃ vs, H a = some (.lst vs) ∧ Reps K φ H ds vs
  | .dct kvs => ∃ vs, H a = some (.dK ((kvs.map (·.1)).zip vs)) ∧ Reps K φ H (kvs.map (·.2)) vs
def Making (H : Hp) (B : Addr) : Prop := (∃ vs, H B = some (.lst vs)) ∨ ∃ kvs, H B = some (.dK kvs)
structure MRep (φ : List Addr) (H : Hp) (m : Mem) : Prop where
  nd : φ.Nodup
  len : φ.length = m.length
  ob : ∀ (n : Nat) (o : Ob), m[n]? = some o → ∃ a, φ[n]? = some a ∧ RepO K φ H a o
  res : ∀ a, a ∈ K.ps → Making H a ∧ a ∉ φ
/-- later: more objects of the memory, all else that is tracked stands -/
structure Ext (φ : List Addr) (H : Hp) (φ' : List Addr) (H' : Hp) : Prop where
  pre : φ <+: φ'
  keep : ∀ a o, H a = some o → a ∉ φ → H' a = some o
  new : ∀ a, a ∈ φ' → a ∉ φ → H a = none
end

section
variable {K : KK} {φ φ1 φ2 : List Addr} {H H1 H2 : Hp} {m : Mem}
theorem Making.some {B : Addr} (h : Making H B) : H B ≠ none := fun z => by
  rcases h with ⟨_, q⟩ | ⟨_, q⟩ <;> rw [z] at q <;> cases q
theorem Making.eq {B : Addr} (h : Making H B) (e : H1 B = H B) : Making H1 B := by
  unfold Making at h ⊢
  rw [e]
  exact h
theorem Making.ne_tup {B : Addr} (h : Making H B) {a : Addr} {vs : List V} (e : H a = Option.some (.tup vs)) : a ≠ B := fun z => by
  subst z
  rcases h with ⟨_, q⟩ | ⟨_, q⟩ <;> rw [e] at q <;> cases q
theorem Making.ne_frz {B : Addr} (h : Making H B) {a : Addr} {o : Obj} {u : HO} (e : H a = Option.some (.frz o u)) : a ≠ B := fun z => by
  subst z
  rcases h with ⟨_, q⟩ | ⟨_, q⟩ <;> rw [e] at q <;> cases q
theorem Ext.refl : Ext φ H φ H := ⟨List.prefix_refl _, fun _ _ h _ => h, fun _ h n => absurd h n⟩
theorem Ext.trans (x : Ext φ H φ1 H1) (y : Ext φ1 H1 φ2 H2) : Ext φ H φ2 H2 := by
  refine ⟨x.pre.trans y.pre, fun a o h n => ?_, fun a h n => ?_⟩
  · refine y.keep a o (x.keep a o h n) fun z => ?_
    rw [x.new a z n] at h
    cases h
  · by_cases z : a ∈ φ1
    · exact x.new a z n
    · have q := y.new a h z
      cases e : H a with
      | none => rfl
      | some o =>
        rw [x.keep a o e n] at q
        cases q
theorem MRep.some (M : MRep K φ H m) {a : Addr} (h : a ∈ φ) : (∃ vs, H a = some (.lst vs)) ∨ ∃ kvs, H a = some (.dK kvs) := by
  obtain ⟨n, hn, e⟩ := List.mem_iff_getElem.mp h
  have hm : n < m.length := by rw [← M.len]; exact hn
  obtain ⟨b, hb, r⟩ := M.ob n m[n] (List.getElem?_eq_getElem hm)
  have eb : b = a := by
    rw [List.getElem?_eq_getElem hn] at hb
    exact (Option.some.inj hb).symm.trans e
  subst eb
  cases q : m[n] with
  | lst ds => rw [q] at r; obtain ⟨vs, h1, _⟩ := r; exact .inl ⟨vs, h1⟩
  | dct kvs => rw [q] at r; obtain ⟨vs, h1, _⟩ := r; exact .inr ⟨_, h1⟩
theorem MRep.not_tup (M : MRep K φ H m) {a : Addr} {vs : List V} (h : H a = Option.some (.tup vs)) : a ∉ φ := fun z => by
  rcases M.some z with ⟨_, e⟩ | ⟨_, e⟩ <;> rw [h] at e <;> cases e
theorem MRep.not_frz (M : MRep K φ H m) {a : Addr} {o : Obj} {u : HO} (h : H a = Option.some (.frz o u)) : a ∉ φ := fun z => by
  rcases M.some z with ⟨_, e⟩ | ⟨_, e⟩ <;> rw [h] at e <;> cases e
theorem MRep.not_none (M : MRep K φ H m) {a : Addr} (h : H a = Option.none) : a ∉ φ := fun z => by
  rcases M.some z with ⟨_, e⟩ | ⟨_, e⟩ <;> rw [h] at e <;> cases e
theorem MRep.new (M : MRep K φ H m) {a : Addr} (h : H a = Option.none) : a ∉ φ ∧ a ∉ K.ps := ⟨M.not_none h, fun z => (M.res a z).1.some h⟩
theorem SqT.ext {K0 : KK} (M : MRep K0 φ H m) (x : Ext φ H φ1 H1) {a : Addr} {vs : List V} (h : SqT K.K H a vs) : SqT K.K H1 a vs := by
  rcases h with (h | ⟨o, h⟩) | h
  · exact .inl (.inl (x.keep a _ h (M.not_tup h)))
  · exact .inl (.inr ⟨o, x.keep a _ h (M.not_frz h)⟩)
  · exact .inr h
theorem Ext.notin (x : Ext φ H φ1 H1) {a : Addr} {o : HO} (h : H a = Option.some o) (n : a ∉ φ) : a ∉ φ1 := fun z => by
  rw [x.new a z n] at h
  cases h
theorem pre_get {n : Nat} {a : Addr} (h : φ <+: φ1) (e : φ[n]? = Option.some a) : φ1[n]? = Option.some a := by
  obtain ⟨r, rfl⟩ := h
  rw [List.getElem?_append_left (List.getElem?_eq_some_iff.mp e).1]
  exact e
mutual
theorem Rep.ext {K0 : KK} (M : MRep K0 φ H m) (x : Ext φ H φ1 H1) : ∀ (d : D) (v : V), Rep K φ H d v → Rep K φ1 H1 d v
  | .non, _, h => h
  | .bl _, _, h => h
  | .int _, _, h => h
  | .str _, _, h => h
  | .tup ds, v, h => by
    obtain ⟨a, vs, e, h1, h2⟩ := h
    exact ⟨a, vs, e, SqT.ext M x h1, Reps.ext M x ds vs h2⟩
  | .lst ds, v, h => by
    obtain ⟨a, vs, e, h1, n, h2⟩ := h
    exact ⟨a, vs, e, x.keep a _ h1 n.1, ⟨x.notin h1 n.1, n.2⟩, Reps.ext M x ds vs h2⟩
  | .dct ks ds, v, h => by
    obtain ⟨a, vs, e, h1, n, l, h2⟩ := h
    exact ⟨a, vs, e, x.keep a _ h1 n.1, ⟨x.notin h1 n.1, n.2⟩, l, Reps.ext M x ds vs h2⟩
  | .scr is, v, h => by
    obtain ⟨a, e, h1⟩ := h
    refine ⟨a, e, ?_⟩
    rcases h1 with ⟨o, h1⟩ | h1
    · exact .inl ⟨o, x.keep a _ h1 (M.not_frz h1)⟩
    · exact .inr h1
  | .ref n, v, h => by
    obtain ⟨a, e, h1⟩ := h
    exact ⟨a, e, pre_get x.pre h1⟩
theorem Reps.ext {K0 : KK} (M : MRep K0 φ H m) (x : Ext φ H φ1 H1) : ∀ (ds : List D) (vs : List V), Reps K φ H ds vs → Reps K φ1 H1 ds vs
  | [], _, h => h
  | d :: ds, vs, h => by
    obtain ⟨v, r, e, h1, h2⟩ := h
    exact ⟨v, r, e, Rep.ext M x d v h1, Reps.ext M x ds r h2⟩
end
theorem Reps.len : ∀ {ds : List D} {vs : List V}, Reps K φ H ds vs → ds.length = vs.length
  | [], _, h => by
    have e : _ = [] := h
    rw [e]
    rfl
  | d :: ds, vs, h => by
    obtain ⟨v, r, rfl, _, h2⟩ := h
    rw [List.length_cons, List.length_cons, Reps.len h2]
theorem Reps.nil : Reps K φ H [] [] := rfl
theorem Reps.cons {d : D} {ds : List D} {v : V} {vs : List V} (h : Rep K φ H d v) (t : Reps K φ H ds vs) : Reps K φ H (d :: ds) (v :: vs) := ⟨v, vs, rfl, h, t⟩
theorem Reps.get : ∀ {ds : List D} {vs : List V} {i : Nat} {d : D}, Reps K φ H ds vs → ds[i]? = Option.some d → ∃ v, vs[i]? = Option.some v ∧ Rep K φ H d v
  | [], _, _, _, _, e => by simp at e
  | x :: ds, vs, 0, d, h, e => by
    obtain ⟨v, r, rfl, h1, _⟩ := h
    have e' : x = d := by simpa using e
    subst e'
    exact ⟨v, rfl, h1⟩
  | x :: ds, vs, i + 1, d, h, e => by
    obtain ⟨v, r, rfl, _, h2⟩ := h
    obtain ⟨w, e2, q⟩ := Reps.get (i := i) h2 (by simpa using e)
    exact ⟨w, by simpa using e2, q⟩
theorem Reps.append : ∀ {ds es : List D} {vs ws : List V}, Reps K φ H ds vs → Reps K φ H es ws → Reps K φ H (ds ++ es) (vs ++ ws)
  | [], _, _, _, h, t => by
    have e : _ = [] := h
    rw [e]
    exact t
  | d :: ds, _, _, _, h, t => by
    obtain ⟨v, r, rfl, h1, h2⟩ := h
    exact ⟨v, _, rfl, h1, Reps.append h2 t⟩
theorem Reps.take : ∀ {ds : List D} {vs : List V} (n : Nat), Reps K φ H ds vs → Reps K φ H (ds.take n) (vs.take n)
  | [], vs, n, h => by
    have e : _ = [] := h
    rw [e, List.take_nil, List.take_nil]
    exact rfl
  | d :: ds, vs, 0, h => rfl
  | d :: ds, vs, n + 1, h => by
    obtain ⟨v, r, rfl, h1, h2⟩ := h
    exact ⟨v, _, rfl, h1, Reps.take n h2⟩
theorem Reps.drop : ∀ {ds : List D} {vs : List V} (n : Nat), Reps K φ H ds vs → Reps K φ H (ds.drop n) (vs.drop n)
  | [], vs, n, h => by
    have e : _ = [] := h
    rw [e, List.drop_nil, List.drop_nil]
    exact rfl
  | d :: ds, vs, 0, h => h
  | d :: ds, vs, n + 1, h => by
    obtain ⟨v, r, rfl, h1, h2⟩ := h
    exact Reps.drop n h2
theorem Reps.set {d : D} {v : V} (q : Rep K φ H d v) : ∀ {ds : List D} {vs : List V} (n : Nat), Reps K φ H ds vs → Reps K φ H (ds.set n d) (vs.set n v)
  | [], vs, n, h => by
    have e : _ = [] := h
    rw [e]
    exact rfl
  | x :: ds, vs, 0, h => by
    obtain ⟨w, r, rfl, h1, h2⟩ := h
    exact ⟨v, _, rfl, q, h2⟩
  | x :: ds, vs, n + 1, h => by
    obtain ⟨w, r, rfl, h1, h2⟩ := h
    exact ⟨w, _, rfl, h1, Reps.set q n h2⟩
theorem Reps.reverse : ∀ {ds : List D} {vs : List V}, Reps K φ H ds vs → Reps K φ H ds.reverse vs.reverse
  | [], vs, h => by
    have e : _ = [] := h
    rw [e]
    exact rfl
  | d :: ds, vs, h => by
    obtain ⟨w, r, rfl, h1, h2⟩ := h
    rw [List.reverse_cons, List.reverse_cons]
    exact Reps.append (Reps.reverse h2) (Reps.cons h1 Reps.nil)
theorem Reps.rep {ds : List D} {vs : List V} (h : Reps K φ H ds vs) : ∀ n : Nat, Reps K φ H (List.replicate n ds).flatten (List.replicate n vs).flatten
  | 0 => rfl
  | n + 1 => by
    rw [List.replicate_succ, List.replicate_succ, List.flatten_cons, List.flatten_cons]
    exact Reps.append h (Reps.rep h n)
theorem Reps.ints : ∀ {is : List Int}, Reps K φ H (is.map D.int) (is.map V.int)
  | [] => rfl
  | i :: is => ⟨.int i, _, rfl, rfl, Reps.ints⟩
/-- a new object that nothing knows: a list, a tuple -/
theorem Ext.laid (M : MRep K φ H m) {p : Addr} {o : HO} (h : H p = Option.none) : Ext φ H φ (upd H p o) := by
  refine ⟨List.prefix_refl _, fun a u e _ => ?_, fun a h n => absurd h n⟩
  rw [upd_ne (ne_of_none e h)]
  exact e
theorem RepO.ext (M : MRep K φ H m) (x : Ext φ H φ1 H1) {a : Addr} {o : Ob} (h : RepO K φ H a o) (k : ∀ u, H a = Option.some u → H1 a = Option.some u) : RepO K φ1 H1 a o := by
  cases o with
  | lst ds =>
    obtain ⟨vs, h1, h2⟩ := h
    exact ⟨vs, k _ h1, Reps.ext M x ds vs h2⟩
  | dct kvs =>
    obtain ⟨vs, h1, h2⟩ := h
    exact ⟨vs, k _ h1, Reps.ext M x _ vs h2⟩
theorem MRep.laid (M : MRep K φ H m) {p : Addr} {o : HO} (h : H p = Option.none) : MRep K φ (upd H p o) m := by
  refine ⟨M.nd, M.len, fun n ob e => ?_, fun a z => ⟨?_, (M.res a z).2⟩⟩
  case refine_2 =>
    have hne : a ≠ p := fun q => (M.res a z).1.some (by rw [q]; exact h)
    exact (M.res a z).1.eq (upd_ne hne)
  obtain ⟨a, ha, r⟩ := M.ob n ob e
  refine ⟨a, ha, r.ext M (Ext.laid M h) fun u q => ?_⟩
  rw [upd_ne (ne_of_none q h)]
  exact q
theorem pre_snoc (φ : List Addr) (p : Addr) : φ <+: φ ++ [p] := ⟨[p], rfl⟩
/-- a new object that the memory knows -/
theorem Ext.alloc (M : MRep K φ H m) {p : Addr} {o : HO} (h : H p = Option.none) : Ext φ H (φ ++ [p]) (upd H p o) := by
  refine ⟨pre_snoc φ p, fun a u e _ => ?_, fun a z n => ?_⟩
  · rw [upd_ne (ne_of_none e h)]
    exact e
  · rcases List.mem_append.mp z with z | z
    · exact absurd z n
    · rw [List.mem_singleton.mp z]
      exact h
theorem MRep.alloc (M : MRep K φ H m) {p : Addr} {o : HO} {ob : Ob} (h : H p = Option.none) (r : RepO K (φ ++ [p]) (upd H p o) p ob) : MRep K (φ ++ [p]) (upd H p o) (m ++ [ob]) := by
  have hp : p ∉ φ := M.not_none h
  refine ⟨?_, ?_, fun n ob' e => ?_, fun a z => ?_⟩
  case refine_4 =>
    have hne : a ≠ p := fun q => (M.res a z).1.some (by rw [q]; exact h)
    refine ⟨(M.res a z).1.eq (upd_ne hne), fun q => ?_⟩
    rcases List.mem_append.mp q with q | q
    · exact (M.res a z).2 q
    · exact hne (List.mem_singleton.mp q)
  · rw [List.nodup_append]
    refine ⟨M.nd, by simp, fun a ha b hb => ?_⟩
    rw [List.mem_singleton.mp hb]
    exact fun z => hp (z ▸ ha)
  · rw [List.length_append, List.length_append, M.len]
    rfl
  · by_cases hn : n < m.length
    · rw [List.getElem?_append_left hn] at e
      obtain ⟨a, ha, q⟩ := M.ob n ob' e
      refine ⟨a, pre_get (pre_snoc φ p) ha, q.ext M (Ext.alloc M h) fun u q => ?_⟩
      rw [upd_ne (ne_of_none q h)]
      exact q
    · have hl : n < (m ++ [ob]).length := (List.getElem?_eq_some_iff.mp e).1
      rw [List.length_append, List.length_singleton] at hl
      have en : n = m.length := by omega
      subst en
      rw [List.getElem?_append_right (Nat.le_refl _), Nat.sub_self] at e
      cases e
      refine ⟨p, ?_, r⟩
      rw [← M.len, List.getElem?_append_right (Nat.le_refl _), Nat.sub_self]
      rfl
/-- an object of the memory is changed -/
theorem Ext.set (M : MRep K φ H m) {n : Nat} {a : Addr} {o : HO} (ha : φ[n]? = Option.some a) : Ext φ H φ (upd H a o) := by
  refine ⟨List.prefix_refl _, fun b u e z => ?_, fun b h z => absurd h z⟩
  rw [upd_ne fun q => z (by rw [q]; exact List.mem_of_getElem? ha)]
  exact e
theorem MRep.set (M : MRep K φ H m) {n : Nat} {a : Addr} {o : HO} {ob : Ob} (ha : φ[n]? = Option.some a) (r : RepO K φ (upd H a o) a ob) : MRep K φ (upd H a o) (m.set n ob) := by
  refine ⟨M.nd, by rw [List.length_set]; exact M.len, fun k ob' e => ?_, fun b z => ⟨?_, (M.res b z).2⟩⟩
  case refine_2 =>
    have hne : b ≠ a := fun q => (M.res b z).2 (by rw [q]; exact List.mem_of_getElem? ha)
    exact (M.res b z).1.eq (upd_ne hne)
  have hn : n < m.length := by
    rw [← M.len]
    exact (List.getElem?_eq_some_iff.mp ha).1
  by_cases hk : n = k
  · subst hk
    rw [List.getElem?_set_self hn] at e
    cases e
    exact ⟨a, ha, r⟩
  · rw [List.getElem?_set_ne hk] at e
    obtain ⟨b, hb, q⟩ := M.ob k ob' e
    refine ⟨b, hb, q.ext M (Ext.set M ha) fun u q => ?_⟩
    rw [upd_ne fun z => ?_]
    · exact q
    · subst z
      exact hk ((List.getElem?_inj (List.getElem?_eq_some_iff.mp ha).1 M.nd).mp (ha.trans hb.symm))
end
end Fp

set_option maxHeartbeats 4000000
/-! Fp1: what a text means, as functions of data -/
namespace Fp
open PySem L2

structure Cxt where
  orc : Str → List D → Mem → RD
  fuel : Nat
abbrev SE := Cxt → EnvD → Mem → RD
abbrev SA := Cxt → EnvD → Mem → R (List D × Mem)
abbrev ST := Cxt → EnvD → Mem → R (Bool × Mem)
abbrev SI := Cxt → EnvD → Mem → R ((List D × Option Nat) × Mem)
mutual
def eqDb : D → D → Bool
  | .non, .non => true
  | .bl a, .bl b => a == b
  | .int a, .int b => a == b
  | .str a, .str b => a == b
  | .tup a, .tup b => eqDs a b
  | .lst a, .lst b => eqDs a b
  | .dct k a, .dct l b => decide (k = l) && eqDs a b
  | .scr a, .scr b => decide (a = b)
  | .ref a, .ref b => a == b
  | _, _ => false
def eqDs : List D → List D → Bool
  | [], [] => true
  | a :: as, b :: bs => eqDb a b && eqDs as bs
  | _, _ => false
end
/-- the list of the memory that is walked stands as it was -/
def standsB (src : Option Nat) (all : List D) (m : Mem) : Bool :=
  match src with
  | none => true
  | some n => match m[n]? with
    | some (.lst ds) => eqDs ds all
    | _ => false
inductive Fl where
  | nx (ρ : EnvD) | ret (d : D) | brk (ρ : EnvD) | cnt (ρ : EnvD)
abbrev SS := Cxt → EnvD → Mem → R (Fl × Mem)
inductive Tgt where
  | nm (i : Nat) | tp (is : List Nat) | no

def LIM : Nat := 16777216

/-! ### data seen -/
/-- the items of a tuple, a list, the script -/
def itemsD (d : D) (m : Mem) : Option (List D) :=
  match d with
  | .tup ds => some ds
  | .lst ds => some ds
  | .scr is => some (is.map D.int)
  | .ref n => match m[n]? with
    | some (.lst ds) => some ds
    | _ => none
  | _ => none
/-- the items of a list that may be written or joined -/
def listD (d : D) (m : Mem) : Option (List D) :=
  match d with
  | .lst ds => some ds
  | .ref n => match m[n]? with
    | some (.lst ds) => some ds
    | _ => none
  | _ => none
def dictD (d : D) (m : Mem) : Option (List (Key × D)) :=
  match d with
  | .dct ks ds => some (ks.zip ds)
  | .ref n => match m[n]? with
    | some (.dct kvs) => some kvs
    | _ => none
  | _ => none
def keyD : D → Option Key
  | .int i => some (.inl i)
  | .str x => some (.inr x)
  | _ => none
def dKey : Key → D
  | .inl i => .int i
  | .inr x => .str x
def dGet (kvs : List (Key × D)) (k : Key) : Option D := (kvs.find? fun kv => decide (kv.1 = k)).map (·.2)
def dPut (kvs : List (Key × D)) (k : Key) (v : D) : List (Key × D) :=
  if kvs.any fun kv => decide (kv.1 = k) then kvs.map fun kv => if kv.1 = k then (kv.1, v) else kv else kvs ++ [(k, v)]
def dMerge (kvs more : List (Key × D)) : List (Key × D) := more.foldl (fun acc kv => dPut acc kv.1 kv.2) kvs
def truD (d : D) (m : Mem) : Option Bool :=
  match d with
  | .non => some false
  | .bl b => some b
  | .int i => some (i != 0)
  | .str x => if x.length ≤ LIM then some ((x.length : Int) != 0) else none
  | .dct ks ds => some (!(ks.zip ds).isEmpty)
  | .tup ds => some (!ds.isEmpty)
  | .lst ds => some (!ds.isEmpty)
  | .scr is => some (!is.isEmpty)
  | .ref n => match m[n]? with
    | some (.lst ds) => some (!ds.isEmpty)
    | some (.dct kvs) => some (!kvs.isEmpty)
    | none => none
/-! data as PyData (for ==) -/
mutual
def pyD : D → Option PyData
  | .non => some .none
  | .bl b => some (.bool b)
  | .int i => some (.int i)
  | .str x => some (.str x)
  | .tup ds => (pyDs ds).map PyData.tuple
  | .lst ds => (pyDs ds).map PyData.list
  | .scr is => some (.list (is.map PyData.int))
  | .dct _ _ => none
  | .ref _ => none
def pyDs : List D → Option (List PyData)
  | [] => some []
  | d :: ds => match pyD d, pyDs ds with
    | some a, some b => some (a :: b)
    | _, _ => none
end
def pyM (d : D) (m : Mem) : Option PyData :=
  match d with
  | .ref n => match m[n]? with
    | some (.lst ds) => (pyDs ds).map PyData.list
    | _ => none
  | d => pyD d

/-! ### operations -/
def okD (d : D) (m : Mem) : RD := .ok (d, m)
def opAdd (d e : D) (m : Mem) : RD :=
  match d, e with
  | .int i, .int j => .ok (.int (i + j), m)
  | .str x, .str y => if x.length + y.length ≤ LIM then .ok (.str (x ++ y), m) else .bad
  | .tup xs, .tup ys => if xs.length + ys.length ≤ LIM then .ok (.tup (xs ++ ys), m) else .bad
  | d, e => match listD d m, listD e m with
    | some xs, some ys => if xs.length + ys.length ≤ LIM then .ok (.lst (xs ++ ys), m) else .bad
    | _, _ => .bad
def opSub (d e : D) (m : Mem) : RD :=
  match d, e with
  | .int i, .int j => .ok (.int (i - j), m)
  | _, _ => .bad
def opMul (d e : D) (m : Mem) : RD :=
  match d, e with
  | .int i, .int j => if i.natAbs.log2 + j.natAbs.log2 < 1000000 then .ok (.int (i * j), m) else .bad
  | .tup xs, .int k => if -1000 ≤ k ∧ k ≤ 1000 ∧ xs.length ≤ 1000 then .ok (.tup (List.replicate k.toNat xs).flatten, m) else .bad
  | _, _ => .bad
def opDiv (d e : D) (m : Mem) : RD :=
  match d, e with
  | .int i, .int j => if 0 < j ∧ j.natAbs.log2 < 9000 then .ok (.int (i / j), m) else .bad
  | _, _ => .bad
def opMod (d e : D) (m : Mem) : RD :=
  match d, e with
  | .int i, .int j => if 0 < j then .ok (.int (i % j), m) else .bad
  | _, _ => .bad
def opPow (d e : D) (m : Mem) : RD :=
  match d, e with
  | .int i, .int j => if 0 ≤ j ∧ j ≤ 1000000 ∧ i.natAbs < 2 ^ 64 then .ok (.int (i ^ j.toNat), m) else .bad
  | _, _ => .bad
def opNeg (d : D) (m : Mem) : RD :=
  match d with
  | .int i => .ok (.int (-i), m)
  | _ => .bad
def opNot (d : D) (m : Mem) : RD :=
  match truD d m with
  | some b => .ok (.bl (!b), m)
  | none => .bad

/-! ### comparisons -/
def shp (d : PyData) : Bool := SeqAt.shaped d
def eqD (d e : D) (m : Mem) : Option Bool :=
  match pyM d m, pyM e m with
  | some a, some b => if shp a = true ∧ shp b = true then some (PyData.eqv a b) else none
  | _, _ => none
def cpEq (d e : D) (m : Mem) : Option Bool := eqD d e m
def cpNe (d e : D) (m : Mem) : Option Bool := (eqD d e m).map (!·)
def cpLt (d e : D) (m : Mem) : Option Bool :=
  match d, e with
  | .int i, .int j => some (decide (i < j))
  | .str x, .str y => some (decide (x.cps.toList < y.cps.toList))
  | _, _ => none
def cpLe (d e : D) (m : Mem) : Option Bool :=
  match d, e with
  | .int i, .int j => some (decide (i ≤ j))
  | _, _ => none
def cpGt (d e : D) (m : Mem) : Option Bool :=
  match d, e with
  | .int i, .int j => some (decide (j < i))
  | _, _ => none
def cpGe (d e : D) (m : Mem) : Option Bool :=
  match d, e with
  | .int i, .int j => some (decide (j ≤ i))
  | _, _ => none
def flatD : D → Bool
  | .non => true
  | .bl _ => true
  | .int _ => true
  | .str _ => true
  | _ => false
/-- == of flat data: the item, then what is looked for -/
def eqF : D → D → Bool
  | .non, .non => true
  | .bl a, .bl b => a == b
  | .bl a, .int b => (if a then 1 else 0) == b
  | .int a, .bl b => a == (if b then 1 else 0)
  | .int a, .int b => a == b
  | .str a, .str b => a == b
  | _, _ => false
def memF (x : D) (ds : List D) : Bool := ds.any fun y => eqF y x
def cpIn (d e : D) (m : Mem) : Option Bool :=
  match itemsD e m with
  | some ds => if flatD d = true ∧ ds.all flatD = true then some (memF d ds) else none
  | none => match dictD e m with
    | some kvs => match keyD d with
      | some k => some (dGet kvs k).isSome
      | none => none
    | none => none
def cpNotIn (d e : D) (m : Mem) : Option Bool := (cpIn d e m).map (!·)
def isNonD : D → Bool
  | .non => true
  | _ => false
def cpIs (d e : D) (m : Mem) : Option Bool :=
  match e with
  | .non => some (isNonD d)
  | .bl b => match d with
    | .bl a => some (decide (a = b))
    | _ => none
  | _ => none
def cpIsNot (d e : D) (m : Mem) : Option Bool := (cpIs d e m).map (!·)
def opC (f : D → D → Mem → Option Bool) (d e : D) (m : Mem) : RD :=
  match f d e m with
  | some b => .ok (.bl b, m)
  | none => .bad

/-! ### subscripts and slices -/
def opIx (d e : D) (m : Mem) : RD :=
  match d, e with
  | .str x, .int i => if x.length ≤ LIM then
      match atI x.cps.toList i with
      | some c => .ok (.str ⟨#[c]⟩, m)
      | none => .bad
      else .bad
  | d, e => match itemsD d m with
    | some ds => match e with
      | .int i => match atI ds i with
        | some v => .ok (v, m)
        | none => .bad
      | _ => .bad
    | none => match dictD d m with
      | some kvs => match keyD e with
        | some k => match dGet kvs k with
          | some v => .ok (v, m)
          | none => .bad
        | none => .bad
      | none => .bad
/-- o[i] of a list or a dict -/
def opGet (d e : D) (m : Mem) : RD :=
  match listD d m with
  | some ds => match e with
    | .int i => match atI ds i with
      | some v => .ok (v, m)
      | none => .bad
    | _ => .bad
  | none => match dictD d m with
    | some kvs => match keyD e with
      | some k => match dGet kvs k with
        | some v => .ok (v, m)
        | none => .bad
      | none => .bad
    | none => .bad
def cutD (ds : List D) (lo hi : Option Int) : List D := (ds.drop (HT.sIx ds.length 0 lo)).take (HT.sIx ds.length ds.length hi - HT.sIx ds.length 0 lo)
def opSl (d : D) (lo hi : Option Int) (m : Mem) : RD :=
  match d with
  | .tup ds => .ok (.tup (cutD ds lo hi), m)
  | d => match listD d m with
    | some ds => .ok (.lst (cutD ds lo hi), m)
    | none => .bad
def opRev (d : D) (m : Mem) : RD :=
  match itemsD d m with
  | some ds => match d with
    | .tup _ => .bad
    | _ => .ok (.lst ds.reverse, m)
  | none => .bad

/-! ### built-in functions, by values -/
def one (f : D → Mem → RD) (ds : List D) (m : Mem) : RD :=
  match ds with
  | [d] => f d m
  | _ => .bad
def biLen (d : D) (m : Mem) : RD :=
  match d with
  | .str x => if x.length ≤ LIM then .ok (.int x.length, m) else .bad
  | d => match itemsD d m with
    | some ds => .ok (.int ds.length, m)
    | none => .bad
def biTuple (d : D) (m : Mem) : RD :=
  match itemsD d m with
  | some ds => .ok (.tup ds, m)
  | none => .bad
def biInt (d : D) (m : Mem) : RD :=
  match d with
  | .int i => .ok (.int i, m)
  | .bl b => .ok (.int (if b then 1 else 0), m)
  | _ => .bad
def biAbs (d : D) (m : Mem) : RD :=
  match d with
  | .int i => .ok (.int (if i < 0 then -i else i), m)
  | _ => .bad
def biMin (ds : List D) (m : Mem) : RD :=
  match ds with
  | [.int i, .int j] => .ok (.int (if j < i then j else i), m)
  | _ => .bad
def biMax (ds : List D) (m : Mem) : RD :=
  match ds with
  | [.int i, .int j] => .ok (.int (if j > i then j else i), m)
  | _ => .bad
def boolsD : List D → Option (List Bool)
  | [] => some []
  | .bl b :: ds => (boolsD ds).map (b :: ·)
  | _ => none
def biAny (d : D) (m : Mem) : RD :=
  match (listD d m).bind boolsD with
  | some bs => .ok (.bl (bs.any id), m)
  | none => .bad
def biAll (d : D) (m : Mem) : RD :=
  match (listD d m).bind boolsD with
  | some bs => .ok (.bl (bs.all id), m)
  | none => .bad

/-! ### new objects: a value, or an object of the memory -/
def mkL (al : Bool) (ds : List D) (m : Mem) : RD :=
  if ds.length ≤ LIM then (if al then .ok (.ref m.length, m ++ [.lst ds]) else .ok (.lst ds, m)) else .bad
def mkD (al : Bool) (kvs : List (Key × D)) (m : Mem) : RD :=
  if kvs.length ≤ LIM then (if al then .ok (.ref m.length, m ++ [.dct kvs]) else .ok (.dct (kvs.map (·.1)) (kvs.map (·.2)), m)) else .bad
def biList (al : Bool) (d : D) (m : Mem) : RD :=
  match itemsD d m with
  | some ds => mkL al ds m
  | none => .bad
def biDict (al : Bool) (d : D) (m : Mem) : RD :=
  match dictD d m with
  | some kvs => mkD al kvs m
  | none => .bad

/-! ### expressions -/
def sBad : SE := fun _ _ _ => .bad
def sVar (i : Nat) : SE := fun _ ρ m =>
  match ρ[i]? with
  | some (some d) => .ok (d, m)
  | _ => .bad
def sK (d : D) : SE := fun _ _ m => .ok (d, m)
def sNil : SA := fun _ _ m => .ok ([], m)
def sCons (a : SE) (r : SA) : SA := fun c ρ m => (a c ρ m).bind fun x => (r c ρ x.2).bind fun y => .ok (x.1 :: y.1, y.2)
def sArgs : List SE → SA
  | [] => sNil
  | a :: r => sCons a (sArgs r)
def sApp (f : List D → Mem → RD) (a : SA) : SE := fun c ρ m => (a c ρ m).bind fun x => f x.1 x.2
def sOp (f : D → D → Mem → RD) (a b : SE) : SE := fun c ρ m => (a c ρ m).bind fun x => (b c ρ x.2).bind fun y => f x.1 y.1 y.2
def sUn (f : D → Mem → RD) (a : SE) : SE := fun c ρ m => (a c ρ m).bind fun x => f x.1 x.2
def sIfE (t : ST) (a b : SE) : SE := fun c ρ m => (t c ρ m).bind fun x => if x.1 then a c ρ x.2 else b c ρ x.2
def sAndE (a b : SE) : SE := fun c ρ m => (a c ρ m).bind fun x =>
  match truD x.1 x.2 with
  | some true => b c ρ x.2
  | some false => .ok x
  | none => .bad
def sOrE (a b : SE) : SE := fun c ρ m => (a c ρ m).bind fun x =>
  match truD x.1 x.2 with
  | some true => .ok x
  | some false => b c ρ x.2
  | none => .bad
abbrev SO := Cxt → EnvD → Mem → R (Option Int × Mem)
def soNo : SO := fun _ _ m => .ok (none, m)
def soSome (a : SE) : SO := fun c ρ m => (a c ρ m).bind fun x =>
  match x.1 with
  | .int i => .ok (some i, x.2)
  | _ => .bad
def sSl (a : SE) (lo hi : SO) : SE := fun c ρ m => (a c ρ m).bind fun x => (lo c ρ x.2).bind fun l => (hi c ρ l.2).bind fun h => opSl x.1 l.1 h.1 h.2
def sTup (ds : List D) (m : Mem) : RD := if ds.length ≤ LIM then .ok (.tup ds, m) else .bad
def sCall (f : Str) (a : SA) : SE := fun c ρ m => (a c ρ m).bind fun x => c.orc f x.1 x.2
/-- a method: what the receiver must be, ahead of the arguments -/
def sMeth (g : D → Mem → Bool) (f : D → List D → Mem → RD) (o : SE) (a : SA) : SE := fun c ρ m => (o c ρ m).bind fun x =>
  if g x.1 x.2 then (a c ρ x.2).bind fun y => f x.1 y.1 y.2 else .bad
/-- {k: v, ..} -/
def sPairs : List (SE × SE) → Cxt → EnvD → Mem → R (List (Key × D) × Mem)
  | [], _, _, m => .ok ([], m)
  | (k, v) :: r, c, ρ, m => (k c ρ m).bind fun x => (v c ρ x.2).bind fun y => (sPairs r c ρ y.2).bind fun z =>
    match keyD x.1 with
    | some k => .ok ((k, y.1) :: z.1, z.2)
    | none => .bad
def sDisp (al : Bool) (ps : List (SE × SE)) : SE := fun c ρ m => if ps.length ≤ 15 then (sPairs ps c ρ m).bind fun x => mkD al (dMerge [] x.1) x.2 else .bad

/-! ### methods, by values -/
def isL (d : D) (m : Mem) : Bool := (listD d m).isSome
def isDd (d : D) (m : Mem) : Bool := (dictD d m).isSome
def mAppend (d : D) (es : List D) (m : Mem) : RD :=
  match d, es with
  | .ref n, [e] => match m[n]? with
    | some (.lst ds) => if ds.length < LIM then .ok (.non, m.set n (.lst (ds ++ [e]))) else .bad
    | _ => .bad
  | _, _ => .bad
def mExtend (d : D) (es : List D) (m : Mem) : RD :=
  match d, es with
  | .ref n, [e] => match m[n]?, listD e m with
    | some (.lst ds), some xs => if ds.length + xs.length ≤ LIM then .ok (.non, m.set n (.lst (ds ++ xs))) else .bad
    | _, _ => .bad
  | _, _ => .bad
def mPop (d : D) (es : List D) (m : Mem) : RD :=
  match d, es with
  | .ref n, [] => match m[n]? with
    | some (.lst ds) => match ds[ds.length - 1]? with
      | some e => .ok (e, m.set n (.lst ds.dropLast))
      | none => .bad
    | _ => .bad
  | _, _ => .bad
def mGet1 (d : D) (es : List D) (m : Mem) : RD :=
  match dictD d m, es with
  | some kvs, [k] => match keyD k with
    | some k => .ok ((dGet kvs k).getD .non, m)
    | none => .bad
  | _, _ => .bad
def mGet2 (d : D) (es : List D) (m : Mem) : RD :=
  match dictD d m, es with
  | some kvs, [k, e] => match keyD k with
    | some k => .ok ((dGet kvs k).getD e, m)
    | none => .bad
  | _, _ => .bad
def isRef (n : Nat) : D → Bool
  | .ref k => k == n
  | _ => false
def mUpdate (d : D) (es : List D) (m : Mem) : RD :=
  match d, es with
  | .ref n, [e] => match m[n]?, dictD e m with
    | some (.dct kvs), some more => if isRef n e = false ∧ kvs.length + more.length ≤ LIM then .ok (.non, m.set n (.dct (dMerge kvs more))) else .bad
    | _, _ => .bad
  | _, _ => .bad

/-! ### tests -/
def stBad : ST := fun _ _ _ => .bad
def stTru (a : SE) : ST := fun c ρ m => (a c ρ m).bind fun x =>
  match truD x.1 x.2 with
  | some b => .ok (b, x.2)
  | none => .bad
def stCmp (f : D → D → Mem → Option Bool) (a b : SE) : ST := fun c ρ m => (a c ρ m).bind fun x => (b c ρ x.2).bind fun y =>
  match f x.1 y.1 y.2 with
  | some k => .ok (k, y.2)
  | none => .bad
def stAnd (a b : ST) : ST := fun c ρ m => (a c ρ m).bind fun x => if x.1 then b c ρ x.2 else .ok (false, x.2)
def stOr (a b : ST) : ST := fun c ρ m => (a c ρ m).bind fun x => if x.1 then .ok (true, x.2) else b c ρ x.2
def stNot (a : ST) : ST := fun c ρ m => (a c ρ m).bind fun x => .ok (!x.1, x.2)
def stYes : ST := fun _ _ m => .ok (true, m)

/-! ### targets -/
def setAll : List Nat → List D → EnvD → EnvD
  | [], _, ρ => ρ
  | _, [], ρ => ρ
  | i :: is, d :: ds, ρ => setAll is ds (ρ.set i (some d))
def asgD (t : Tgt) (d : D) (ρ : EnvD) : Option EnvD :=
  match t with
  | .nm i => some (ρ.set i (some d))
  | .tp is => match d with
    | .tup ds => if ds.length = is.length then some (setAll is ds ρ) else none
    | _ => none
  | .no => none

/-! ### what is walked -/
def siSeq (a : SE) : SI := fun c ρ m => (a c ρ m).bind fun x =>
  match x.1 with
  | .tup ds => .ok ((ds, none), x.2)
  | .lst ds => .ok ((ds, none), x.2)
  | .scr is => .ok ((is.map D.int, none), x.2)
  | .ref n => match x.2[n]? with
    | some (.lst ds) => .ok ((ds, some n), x.2)
    | _ => .bad
  | _ => .bad
def upto (lo : Int) (n : Nat) : List D := (List.range n).map fun (i : Nat) => D.int (lo + (i : Int))
def smallI (i : Int) : Bool := decide (-(2 ^ 62) ≤ i) && decide (i < 2 ^ 62)
def siRange1 (a : SA) : SI := fun c ρ m => (a c ρ m).bind fun x =>
  match x.1 with
  | [.int j] => if smallI j then .ok ((upto 0 j.toNat, none), x.2) else .bad
  | _ => .bad
def siRange2 (a : SA) : SI := fun c ρ m => (a c ρ m).bind fun x =>
  match x.1 with
  | [.int i, .int j] => if smallI i && smallI j then .ok ((upto i (j - i).toNat, none), x.2) else .bad
  | _ => .bad
def zipD (xs ys : List D) : List D := (xs.zip ys).map fun p => .tup [p.1, p.2]
def siZip (a : SA) : SI := fun c ρ m => (a c ρ m).bind fun x =>
  match x.1 with
  | [.tup xs, .tup ys] => .ok ((zipD xs ys, none), x.2)
  | _ => .bad

/-! ### comprehensions -/
def wipeD (ρ : EnvD) : List Nat → EnvD
  | [] => ρ
  | v :: vs => (wipeD ρ vs).set v none
/-- the items behind a comprehension's turns -/
def compL (f : D → Mem → R (List D × Mem)) (src : Option Nat) (all : List D) : List D → Mem → R (List D × Mem)
  | [], m => if standsB src all m then .ok ([], m) else .bad
  | d :: ds, m => if standsB src all m then (f d m).bind fun x => (compL f src all ds x.2).bind fun y => .ok (x.1 ++ y.1, y.2) else .bad
def compTurn (t : Tgt) (tt : ST) (e : SE) (c : Cxt) (ρ : EnvD) (d : D) (m : Mem) : R (List D × Mem) :=
  match asgD t d ρ with
  | some ρ' => (tt c ρ' m).bind fun b => if b.1 then (e c ρ' b.2).bind fun y => .ok ([y.1], y.2) else .ok ([], b.2)
  | none => .bad
def sComp (al : Bool) (it : SI) (t : Tgt) (own : List Nat) (tt : ST) (e : SE) : SE := fun c ρ m => (it c ρ m).bind fun x =>
  (compL (compTurn t tt e c (wipeD ρ own)) x.1.2 x.1.1 x.1.1 x.2).bind fun y => mkL al y.1 y.2
def compTurn2 (t : Tgt) (it1 : SI) (own1 : List Nat) (t1 : Tgt) (tt1 : ST) (e : SE) (c : Cxt) (ρ : EnvD) (d : D) (m : Mem) : R (List D × Mem) :=
  match asgD t d ρ with
  | some ρ' => (it1 c ρ' m).bind fun x => compL (compTurn t1 tt1 e c (wipeD ρ' own1)) x.1.2 x.1.1 x.1.1 x.2
  | none => .bad
def sComp2 (al : Bool) (it : SI) (t : Tgt) (own : List Nat) (it1 : SI) (own1 : List Nat) (t1 : Tgt) (tt1 : ST) (e : SE) : SE := fun c ρ m => (it c ρ m).bind fun x =>
  (compL (compTurn2 t it1 own1 t1 tt1 e c (wipeD ρ own)) x.1.2 x.1.1 x.1.1 x.2).bind fun y => mkL al y.1 y.2

/-! ### statements -/
def ssBad : SS := fun _ _ _ => .bad
def ssNil : SS := fun _ ρ m => .ok (.nx ρ, m)
def ssCons (a b : SS) : SS := fun c ρ m => (a c ρ m).bind fun x =>
  match x.1 with
  | .nx ρ' => b c ρ' x.2
  | _ => .ok x
def ssBrk : SS := fun _ ρ m => .ok (.brk ρ, m)
def ssCnt : SS := fun _ ρ m => .ok (.cnt ρ, m)
def ssRet (a : SE) : SS := fun c ρ m => (a c ρ m).bind fun x => .ok (.ret x.1, x.2)
def ssRetN : SS := fun _ ρ m => .ok (.ret .non, m)
def ssExpr (a : SE) : SS := fun c ρ m => (a c ρ m).bind fun x => .ok (.nx ρ, x.2)
def ssSet (t : Tgt) (a : SE) : SS := fun c ρ m => (a c ρ m).bind fun x =>
  match asgD t x.1 ρ with
  | some ρ' => .ok (.nx ρ', x.2)
  | none => .bad
def ssPar (is : List Nat) (a : SA) : SS := fun c ρ m => (a c ρ m).bind fun x => if x.1.length = is.length then .ok (.nx (setAll is x.1 ρ), x.2) else .bad
def ssIf (t : ST) (a b : SS) : SS := fun c ρ m => (t c ρ m).bind fun x => if x.1 then a c ρ x.2 else b c ρ x.2
def ssAug (i : Nat) (f : D → D → Mem → RD) (a : SE) : SS := fun c ρ m =>
  match ρ[i]? with
  | some (some d) => (a c ρ m).bind fun x => (f d x.1 x.2).bind fun y => .ok (.nx (ρ.set i (some y.1)), y.2)
  | _ => .bad
/-- o[i] = v by values -/
def putIx (o i v : D) (m : Mem) : R Mem :=
  match o with
  | .ref n => match m[n]? with
    | some (.lst ds) => match i with
      | .int k => match ixN ds.length k with
        | some j => .ok (m.set n (.lst (ds.set j v)))
        | none => .bad
      | _ => .bad
    | some (.dct kvs) => match keyD i with
      | some k => if kvs.length < LIM then .ok (m.set n (.dct (dPut kvs k v))) else .bad
      | none => .bad
    | none => .bad
  | _ => .bad
def ssPut (o i v : SE) : SS := fun c ρ m => (v c ρ m).bind fun x => (o c ρ x.2).bind fun y => (i c ρ y.2).bind fun z => (putIx y.1 z.1 x.1 z.2).bind fun m' => .ok (.nx ρ, m')
def ssAugIx (o i : SE) (f : D → D → Mem → RD) (v : SE) : SS := fun c ρ m => (o c ρ m).bind fun x => (i c ρ x.2).bind fun y => (opGet x.1 y.1 y.2).bind fun w =>
  (v c ρ w.2).bind fun z => (f w.1 z.1 z.2).bind fun u => (putIx x.1 y.1 u.1 u.2).bind fun m' => .ok (.nx ρ, m')
def whileL (t : ST) (b : SS) (c : Cxt) : Nat → EnvD → Mem → R (Fl × Mem)
  | 0, _, _ => .bad
  | n + 1, ρ, m => (t c ρ m).bind fun x => if x.1 then (b c ρ x.2).bind fun y =>
      match y.1 with
      | .nx ρ' => whileL t b c n ρ' y.2
      | .cnt ρ' => whileL t b c n ρ' y.2
      | .brk ρ' => .ok (.nx ρ', y.2)
      | .ret d => .ok (.ret d, y.2)
    else .ok (.nx ρ, x.2)
def ssWhile (t : ST) (b : SS) : SS := fun c ρ m => whileL t b c c.fuel ρ m
def forL (t : Tgt) (b : SS) (c : Cxt) (src : Option Nat) (all : List D) : List D → EnvD → Mem → R (Fl × Mem)
  | [], ρ, m => if standsB src all m then .ok (.nx ρ, m) else .bad
  | d :: ds, ρ, m => if standsB src all m then
    match asgD t d ρ with
    | some ρ' => (b c ρ' m).bind fun y =>
      match y.1 with
      | .nx ρ' => forL t b c src all ds ρ' y.2
      | .cnt ρ' => forL t b c src all ds ρ' y.2
      | .brk ρ' => .ok (.nx ρ', y.2)
      | .ret d => .ok (.ret d, y.2)
    | none => .bad
    else .bad
def ssFor (it : SI) (t : Tgt) (b : SS) : SS := fun c ρ m => (it c ρ m).bind fun x => forL t b c x.1.2 x.1.1 x.1.1 ρ x.2

/-! ### calls -/
mutual
def refsB (k : Nat) : D → Bool
  | .tup ds => refsBs k ds
  | .lst ds => refsBs k ds
  | .dct _ ds => refsBs k ds
  | .ref n => decide (n < k)
  | _ => true
def refsBs (k : Nat) : List D → Bool
  | [] => true
  | d :: ds => refsB k d && refsBs k ds
end
def obB (k : Nat) : Ob → Bool
  | .lst ds => refsBs k ds
  | .dct kvs => refsBs k (kvs.map (·.2))
/-! a value that leaves the def whose objects are those from k on -/
mutual
def frzD (m : Mem) (k : Nat) : D → Option D
  | .tup ds => (frzDs m k ds).map D.tup
  | .lst ds => (frzDs m k ds).map D.lst
  | .dct ks ds => (frzDs m k ds).map (D.dct ks)
  | .ref n => if n < k then some (.ref n) else
    match m[n]? with
    | some (.lst ds) => if refsBs k ds then some (.lst ds) else none
    | some (.dct kvs) => if refsBs k (kvs.map (·.2)) then some (.dct (kvs.map (·.1)) (kvs.map (·.2))) else none
    | none => none
  | .non => some .non
  | .bl b => some (.bl b)
  | .int i => some (.int i)
  | .str x => some (.str x)
  | .scr is => some (.scr is)
def frzDs (m : Mem) (k : Nat) : List D → Option (List D)
  | [] => some []
  | d :: ds => match frzD m k d, frzDs m k ds with
    | some e, some es => some (e :: es)
    | _, _ => none
end
def leave (k : Nat) (d : D) (m : Mem) : D × Mem :=
  match frzD m k d with
  | some e => if (m.take k).all (obB k) then (e, m.take k) else (d, m)
  | none => (d, m)
def finish (k : Nat) (r : R (Fl × Mem)) : RD :=
  r.bind fun x =>
  match x.1 with
  | .nx _ => .ok (leave k .non x.2)
  | .ret d => .ok (leave k d x.2)
  | _ => .bad
structure FnE where
  np : Nat
  nslots : Nat
  sem : SS
def callN (tb : Str → Option FnE) (L : Nat) : Nat → Str → List D → Mem → RD
  | 0, _, _, _ => .bad
  | n + 1, f, ds, m =>
    match tb f with
    | some e => if ds.length = e.np then finish m.length (e.sem ⟨callN tb L n, L⟩ (ds.map some ++ List.replicate (e.nslots - ds.length) none) m) else .bad
    | none => .bad
end Fp

set_option maxHeartbeats 4000000
/-! Fq: meanings of more built-ins: sorted, set -/
namespace Fp
open PySem L2
/-- one more member -/
def addS (L : List Str) (k : Str) : List Str := if k ∈ L then L else L ++ [k]
def ddS (xs : List Str) : List Str := xs.foldl addS []
def ltB (x y : Str) : Bool := decide (x.cps.toList < y.cps.toList)
def leB (x y : Str) : Bool := !ltB y x
def insS (x : Str) : List Str → List Str
  | [] => [x]
  | y :: ys => if leB x y then x :: y :: ys else y :: insS x ys
def sortS : List Str → List Str
  | [] => []
  | x :: xs => insS x (sortS xs)
def strsD : List D → Option (List Str)
  | [] => some []
  | .str x :: ds => (strsD ds).map (x :: ·)
  | _ => none
def setD (d : D) (m : Mem) : Option (List Str) :=
  match listD d m with
  | some ds => match strsD ds with
    | some xs => if xs.length < 4095 then some (ddS xs) else none
    | none => none
  | none => none
def biSortSet (d : D) (m : Mem) : RD :=
  match setD d m with
  | some xs => .ok (.lst ((sortS xs).map D.str), m)
  | none => .bad
def biLenSet (d : D) (m : Mem) : RD :=
  match setD d m with
  | some xs => .ok (.int xs.length, m)
  | none => .bad
def keysS : List Key → Option (List Str)
  | [] => some []
  | .inr x :: ks => (keysS ks).map (x :: ·)
  | .inl _ :: _ => none
/-- sorted(d) of a dict -/
def biSorted (d : D) (m : Mem) : RD :=
  match dictD d m with
  | some kvs => match keysS (kvs.map (·.1)) with
    | some xs => if xs.length < 64 then .ok (.lst ((sortS xs).map D.str), m) else .bad
    | none => .bad
  | none => .bad
def keysD : List D → Option (List Key)
  | [] => some []
  | d :: ds => match keyD d, keysD ds with
    | some k, some ks => some (k :: ks)
    | _, _ => none
/-- dict(zip(names, range(lo, hi))) -/
def biDZ (al : Bool) (x : D) (lo hi : Int) (m : Mem) : RD :=
  match x with
  | .tup ds => if smallI lo && smallI hi then
      match keysD ds with
      | some ks => mkD al (dMerge [] (ks.zip (upto lo (hi - lo).toNat))) m
      | none => .bad
    else .bad
  | _ => .bad
def biDZ2 (al : Bool) (ds : List D) (m : Mem) : RD :=
  match ds with
  | [x, .int lo, .int hi] => biDZ al x lo hi m
  | _ => .bad
def biDZ1 (al : Bool) (ds : List D) (m : Mem) : RD :=
  match ds with
  | [x, .int hi] => biDZ al x 0 hi m
  | _ => .bad
end Fp

set_option maxHeartbeats 4000000
/-! Fp2: each operation by data is what the machine does -/
namespace Fp
open PySem PySem.Spec PyProof.Rows L2
theorem LIM_eq : LIM = sizeLine := by rw [sizeLine_eq]; rfl

abbrev kk (X : Cx) (ψ : List Addr) : KK := ⟨X.K, ψ⟩

/-! ### what follows -/
def Po {α β : Type} (K : KK) (Rl : List Addr → Hp → α → β → Prop) (φ : List Addr) (H : Hp) (Q : β → Hp → Prop) (r : R (α × Mem)) : Prop :=
  match r with
  | .ok x => ∀ (b : β) (φ' : List Addr) (H' : Hp), Ext φ H φ' H' → MRep K φ' H' x.2 → Rl φ' H' x.1 b → Q b H'
  | _ => False
abbrev PoE (K : KK) : List Addr → Hp → VK → RD → Prop := Po K (Rep K)
section
variable {α β γ δ : Type} {K : KK} {Rl : List Addr → Hp → α → β → Prop} {Rm : List Addr → Hp → γ → δ → Prop} {φ φ1 : List Addr} {H H1 : Hp} {Q : β → Hp → Prop} {r : R (α × Mem)}
theorem Po.ext (p : Po K Rl φ H Q r) (x : Ext φ H φ1 H1) : Po K Rl φ1 H1 Q r := by
  cases r with
  | ok a => exact fun b φ' H' e => p b φ' H' (x.trans e)
  | exc _ _ _ => exact p
  | bad => exact p
theorem Po.bind {f : α × Mem → R (γ × Mem)} {Q2 : δ → Hp → Prop} (p : Po K Rm φ H Q2 (r.bind f)) :
    Po K Rl φ H (fun b H1 => ∃ (φ1 : List Addr) (m1 : Mem) (a : α), Ext φ H φ1 H1 ∧ MRep K φ1 H1 m1 ∧ Rl φ1 H1 a b ∧ Po K Rm φ1 H1 Q2 (f (a, m1))) r := by
  cases r with
  | ok a => exact fun b φ' H' e M rl => ⟨φ', a.2, a.1, e, M, rl, Po.ext p e⟩
  | exc _ _ _ => exact p
  | bad => exact p
theorem Po.mono {Q' : β → Hp → Prop} (p : Po K Rl φ H Q r) (h : ∀ b H', Q b H' → Q' b H') : Po K Rl φ H Q' r := by
  cases r with
  | ok a => exact fun b φ' H' e M rl => h _ _ (p b φ' H' e M rl)
  | exc _ _ _ => exact p
  | bad => exact p
end

section
variable {K : KK} {φ : List Addr} {H : Hp} {m : Mem}
theorem PoE.same {Q : VK} {d : D} {v : V} (p : PoE K φ H Q (.ok (d, m))) (M : MRep K φ H m) (r : Rep K φ H d v) : Q v H := p v φ H Ext.refl M r
theorem PoE.tup {Q : VK} {ds : List D} {vs : List V} (p : PoE K φ H Q (.ok (.tup ds, m))) (M : MRep K φ H m) (r : Reps K φ H ds vs) : ∀ q, H q = none → Q (.ref q) (upd H q (.tup vs)) := fun q hq =>
  p (.ref q) φ _ (Ext.laid M hq) (M.laid hq) ⟨q, vs, rfl, SqT.of upd_same, Reps.ext M (Ext.laid M hq) ds vs r⟩
theorem PoE.lst {Q : VK} {ds : List D} {vs : List V} (p : PoE K φ H Q (.ok (.lst ds, m))) (M : MRep K φ H m) (r : Reps K φ H ds vs) : ∀ q, H q = none → Q (.ref q) (upd H q (.lst vs)) := fun q hq =>
  p (.ref q) φ _ (Ext.laid M hq) (M.laid hq) ⟨q, vs, rfl, upd_same, M.new hq, Reps.ext M (Ext.laid M hq) ds vs r⟩
theorem listD_rep {d : D} {ds : List D} {v : V} (h : listD d m = some ds) (M : MRep K φ H m) (r : Rep K φ H d v) : ∃ a vs, v = .ref a ∧ H a = some (.lst vs) ∧ Reps K φ H ds vs := by
  cases d with
  | lst es =>
    obtain ⟨a, vs, e, h1, _, h2⟩ := r
    obtain rfl : es = ds := Option.some.inj h
    exact ⟨a, vs, e, h1, h2⟩
  | ref n =>
    obtain ⟨a, e, hn⟩ := r
    unfold listD at h
    simp only at h
    split at h
    · rename_i es he
      obtain rfl : es = ds := Option.some.inj h
      obtain ⟨b, hb, vs, h1, h2⟩ := M.ob n _ he
      rw [hn] at hb
      cases hb
      exact ⟨a, vs, e, h1, h2⟩
    · cases h
  | _ => cases h
theorem itemsD_rep {d : D} {ds : List D} {v : V} (h : itemsD d m = some ds) (M : MRep K φ H m) (r : Rep K φ H d v) : ∃ a vs, v = .ref a ∧ (SqL K.K H a vs ∨ SqT K.K H a vs) ∧ Reps K φ H ds vs := by
  cases d with
  | tup es =>
    obtain ⟨a, vs, e, h1, h2⟩ := r
    obtain rfl : es = ds := Option.some.inj h
    exact ⟨a, vs, e, .inr h1, h2⟩
  | lst es =>
    obtain ⟨a, vs, e, h1, _, h2⟩ := r
    obtain rfl : es = ds := Option.some.inj h
    exact ⟨a, vs, e, .inl (SqL.of h1), h2⟩
  | scr is =>
    obtain ⟨a, e, h1⟩ := r
    obtain rfl : is.map D.int = ds := Option.some.inj h
    refine ⟨a, _, e, .inl ?_, Reps.ints⟩
    rcases h1 with ⟨o, h1⟩ | h1
    · exact .inl (.inr ⟨o, h1⟩)
    · exact .inr h1
  | ref n =>
    obtain ⟨a, e, hn⟩ := r
    unfold itemsD at h
    simp only at h
    split at h
    · rename_i es he
      obtain rfl : es = ds := Option.some.inj h
      obtain ⟨b, hb, vs, h1, h2⟩ := M.ob n _ he
      rw [hn] at hb
      cases hb
      exact ⟨a, vs, e, .inl (SqL.of h1), h2⟩
    · cases h
  | _ => cases h
/-- the same, and what kind it is -/
theorem itemsD_tup {d : D} {ds : List D} {v : V} (h : itemsD d m = some ds) (M : MRep K φ H m) (r : Rep K φ H d v) :
    (∃ a vs, d = .tup ds ∧ v = .ref a ∧ SqT K.K H a vs ∧ Reps K φ H ds vs) ∨ ∃ a vs, v = .ref a ∧ SqL K.K H a vs ∧ Reps K φ H ds vs := by
  cases d with
  | tup es =>
    obtain ⟨a, vs, e, h1, h2⟩ := r
    obtain rfl : es = ds := Option.some.inj h
    exact .inl ⟨a, vs, rfl, e, h1, h2⟩
  | lst es =>
    obtain ⟨a, vs, e, h1, _, h2⟩ := r
    obtain rfl : es = ds := Option.some.inj h
    exact .inr ⟨a, vs, e, SqL.of h1, h2⟩
  | scr is =>
    obtain ⟨a, e, h1⟩ := r
    obtain rfl : is.map D.int = ds := Option.some.inj h
    refine .inr ⟨a, _, e, ?_, Reps.ints⟩
    rcases h1 with ⟨o, h1⟩ | h1
    · exact .inl (.inr ⟨o, h1⟩)
    · exact .inr h1
  | ref n =>
    obtain ⟨a, e, hn⟩ := r
    unfold itemsD at h
    simp only at h
    split at h
    · rename_i es he
      obtain rfl : es = ds := Option.some.inj h
      obtain ⟨b, hb, vs, h1, h2⟩ := M.ob n _ he
      rw [hn] at hb
      cases hb
      exact .inr ⟨a, vs, e, SqL.of h1, h2⟩
    · cases h
  | _ => cases h
/-! keys of dicts -/
theorem keyD_rep {d : D} {k : Key} {v : V} (h : keyD d = some k) (r : Rep K φ H d v) : v = kV k := by
  cases d with
  | int i =>
    obtain rfl : Sum.inl i = k := Option.some.inj h
    exact r
  | str x =>
    obtain rfl : Sum.inr x = k := Option.some.inj h
    exact r
  | _ => cases h
theorem zip_keys {α : Type} : ∀ (ks : List Key) (vs : List α), ks.length = vs.length → (ks.zip vs).map (·.1) = ks
  | [], [], _ => rfl
  | k :: ks, v :: vs, h => by
    rw [List.zip_cons_cons, List.map_cons, zip_keys ks vs (by simpa using h)]
  | [], _ :: _, h => by simp at h
  | _ :: _, [], h => by simp at h
theorem zip_vals {α : Type} : ∀ (ks : List Key) (vs : List α), ks.length = vs.length → (ks.zip vs).map (·.2) = vs
  | [], [], _ => rfl
  | k :: ks, v :: vs, h => by
    rw [List.zip_cons_cons, List.map_cons, zip_vals ks vs (by simpa using h)]
  | [], _ :: _, h => by simp at h
  | _ :: _, [], h => by simp at h
/-- a dict's pairs, by data and by values -/
structure KvR (K : KK) (φ : List Addr) (H : Hp) (kvs : List (Key × D)) (us : List (Key × V)) : Prop where
  keys : kvs.map (·.1) = us.map (·.1)
  vals : Reps K φ H (kvs.map (·.2)) (us.map (·.2))
theorem KvR.zip {kvs : List (Key × D)} {vs : List V} (r : Reps K φ H (kvs.map (·.2)) vs) : KvR K φ H kvs ((kvs.map (·.1)).zip vs) := by
  have hl := r.len
  rw [List.length_map] at hl
  exact ⟨by rw [zip_keys _ _ (by rw [List.length_map]; exact hl)], by rw [zip_vals _ _ (by rw [List.length_map]; exact hl)]; exact r⟩
theorem KvR.unzip {kvs : List (Key × D)} {us : List (Key × V)} (r : KvR K φ H kvs us) : us = (kvs.map (·.1)).zip (us.map (·.2)) := by
  rw [r.keys, List.zip_map', List.map_id'']
  intro x
  rfl
theorem KvR.cons_iff {k : Key} {d : D} {kvs : List (Key × D)} {us : List (Key × V)} (r : KvR K φ H ((k, d) :: kvs) us) : ∃ v us', us = (k, v) :: us' ∧ Rep K φ H d v ∧ KvR K φ H kvs us' := by
  obtain ⟨h1, h2⟩ := r
  cases us with
  | nil => cases h1
  | cons u us =>
    obtain ⟨k', v⟩ := u
    simp only [List.map_cons, List.cons.injEq] at h1
    obtain ⟨rfl, h1⟩ := h1
    obtain ⟨w, r', e, q1, q2⟩ := h2
    simp only [List.map_cons, List.cons.injEq] at e
    obtain ⟨rfl, rfl⟩ := e
    exact ⟨v, us, rfl, q1, h1, q2⟩
theorem KvR.nil_iff {us : List (Key × V)} (r : KvR K φ H [] us) : us = [] := by
  have h := r.keys
  cases us with
  | nil => rfl
  | cons _ _ => cases h
theorem KvR.cons {k : Key} {d : D} {v : V} {kvs : List (Key × D)} {us : List (Key × V)} (q : Rep K φ H d v) (r : KvR K φ H kvs us) : KvR K φ H ((k, d) :: kvs) ((k, v) :: us) :=
  ⟨by rw [List.map_cons, List.map_cons, r.keys], by rw [List.map_cons, List.map_cons]; exact Reps.cons q r.vals⟩
theorem KvR.get {k : Key} : ∀ {kvs : List (Key × D)} {us : List (Key × V)}, KvR K φ H kvs us → match dGet kvs k with
    | some d => ∃ v, valV us k = some v ∧ Rep K φ H d v
    | none => valV us k = none
  | [], us, r => by
    rw [r.nil_iff]
    exact rfl
  | (j, d) :: kvs, us, r => by
    obtain ⟨v, us', rfl, q, r'⟩ := r.cons_iff
    by_cases e : j = k
    · have e1 : dGet ((j, d) :: kvs) k = some d := by simp [dGet, e]
      rw [e1]
      exact ⟨v, valV_pos e, q⟩
    · have e1 : dGet ((j, d) :: kvs) k = dGet kvs k := by simp [dGet, e]
      rw [e1, valV_neg e]
      exact KvR.get r'
theorem KvR.append {kvs kvs' : List (Key × D)} {us us' : List (Key × V)} (r : KvR K φ H kvs us) (r' : KvR K φ H kvs' us') : KvR K φ H (kvs ++ kvs') (us ++ us') :=
  ⟨by rw [List.map_append, List.map_append, r.keys, r'.keys], by rw [List.map_append, List.map_append]; exact Reps.append r.vals r'.vals⟩
theorem KvR.nil : KvR K φ H [] [] := ⟨rfl, rfl⟩
theorem KvR.any {k : Key} : ∀ {kvs : List (Key × D)} {us : List (Key × V)}, KvR K φ H kvs us → (kvs.any fun kv => decide (kv.1 = k)) = us.any fun kv => decide (kv.1 = k)
  | [], us, r => by
    rw [r.nil_iff]
    rfl
  | (j, d) :: kvs, us, r => by
    obtain ⟨v, us', rfl, q, r'⟩ := r.cons_iff
    rw [List.any_cons, List.any_cons, KvR.any r']
theorem KvR.mapAt {k : Key} {d : D} {v : V} (q : Rep K φ H d v) : ∀ {kvs : List (Key × D)} {us : List (Key × V)}, KvR K φ H kvs us → KvR K φ H (kvs.map fun kv => if kv.1 = k then (kv.1, d) else kv) (us.map fun kv => if kv.1 = k then (kv.1, v) else kv)
  | [], us, r => by
    rw [r.nil_iff]
    exact KvR.nil
  | (j, e) :: kvs, us, r => by
    obtain ⟨w, us', rfl, q', r'⟩ := r.cons_iff
    rw [List.map_cons, List.map_cons]
    by_cases z : j = k
    · rw [if_pos z, if_pos z]
      exact KvR.cons q (KvR.mapAt q r')
    · rw [if_neg z, if_neg z]
      exact KvR.cons q' (KvR.mapAt q r')
theorem KvR.put {k : Key} {d : D} {v : V} {kvs : List (Key × D)} {us : List (Key × V)} (q : Rep K φ H d v) (r : KvR K φ H kvs us) : KvR K φ H (dPut kvs k d) (putK us k v) := by
  unfold dPut putK
  rw [KvR.any r]
  split
  · exact KvR.mapAt q r
  · exact KvR.append r (KvR.cons q KvR.nil)
theorem KvR.merge : ∀ {more : List (Key × D)} {ms : List (Key × V)} {kvs : List (Key × D)} {us : List (Key × V)}, KvR K φ H more ms → KvR K φ H kvs us → KvR K φ H (dMerge kvs more) (mergeK us ms)
  | [], ms, kvs, us, r, r' => by
    rw [r.nil_iff]
    exact r'
  | (k, d) :: more, ms, kvs, us, r, r' => by
    obtain ⟨v, ms', rfl, q, r2⟩ := r.cons_iff
    show KvR K φ H (dMerge (dPut kvs k d) more) (mergeK (putK us k v) ms')
    exact KvR.merge r2 (KvR.put q r')
theorem KvR.ext {φ1 : List Addr} {H1 : Hp} (M : MRep K φ H m) (x : Ext φ H φ1 H1) {kvs : List (Key × D)} {us : List (Key × V)} (r : KvR K φ H kvs us) : KvR K φ1 H1 kvs us := ⟨r.keys, Reps.ext M x _ _ r.vals⟩
theorem KvR.len {kvs : List (Key × D)} {us : List (Key × V)} (r : KvR K φ H kvs us) : kvs.length = us.length := by
  have h := congrArg List.length r.keys
  rw [List.length_map, List.length_map] at h
  exact h
theorem dictD_rep {d : D} {kvs : List (Key × D)} {v : V} (h : dictD d m = some kvs) (M : MRep K φ H m) (r : Rep K φ H d v) : ∃ a us, v = .ref a ∧ H a = some (.dK us) ∧ KvR K φ H kvs us := by
  cases d with
  | dct ks es =>
    obtain ⟨a, vs, e, h1, _, hl, h2⟩ := r
    obtain rfl : ks.zip es = kvs := Option.some.inj h
    have hl2 : ks.length = es.length := by rw [hl, h2.len]
    refine ⟨a, _, e, h1, ?_, ?_⟩
    · rw [zip_keys _ _ hl, zip_keys _ _ hl2]
    · rw [zip_vals _ _ hl, zip_vals _ _ hl2]
      exact h2
  | ref n =>
    obtain ⟨a, e, hn⟩ := r
    unfold dictD at h
    simp only at h
    split at h
    · rename_i es he
      obtain rfl : es = kvs := Option.some.inj h
      obtain ⟨b, hb, vs, h1, h2⟩ := M.ob n _ he
      rw [hn] at hb
      cases hb
      exact ⟨a, _, e, h1, KvR.zip h2⟩
    · cases h
  | _ => cases h
theorem RepO.dct {a : Addr} {kvs : List (Key × D)} {us : List (Key × V)} (h : H a = some (.dK us)) (r : KvR K φ H kvs us) : RepO K φ H a (.dct kvs) :=
  ⟨us.map (·.2), by rw [← r.unzip]; exact h, r.vals⟩
end

/-! ### two-place operations -/
def rD (K : KK) (f : D → D → Mem → RD) : R2 := fun x y H Q => ∃ (φ : List Addr) (m : Mem) (dx dy : D), MRep K φ H m ∧ Rep K φ H dx x ∧ Rep K φ H dy y ∧ PoE K φ H Q (f dx dy m)
theorem OpR.imp {X : Cx} {f : Value → Value → Sem Value} {r r' : R2} (h : OpR X f r) (i : ∀ x y H Q, r' x y H Q → r x y H Q) : OpR X f r' :=
  fun pins s σ H x y v u Q I rx ry q => h pins s σ H x y v u Q I rx ry (i _ _ _ _ q)
section
variable {X : Cx} {ψ : List Addr}
theorem or_add : OpR X (binaryOp .Add) (rD (kk X ψ) opAdd) := by
  intro pins s σ H x y v u Q I rx ry ⟨φ, m, dx, dy, M, r1, r2, p⟩
  unfold opAdd at p
  split at p
  · exact op_add pins s σ H x y v u Q I rx ry ⟨_, _, r1, r2, p.same M rfl⟩
  · split at p
    · rename_i hl
      exact op_add_str pins s σ H x y v u Q I rx ry ⟨_, _, r1, r2, by rw [← LIM_eq]; exact hl, p.same M rfl⟩
    · exact p.elim
  · split at p
    · rename_i hl
      obtain ⟨a, vs, rfl, h1, q1⟩ := r1
      obtain ⟨b, ws, rfl, h2, q2⟩ := r2
      refine op_catA pins s σ H _ _ v u Q I rx ry ⟨a, b, vs, ws, rfl, rfl, h1, h2, ?_, fun e => ?_, fun _ e => ?_, fun _ _ => p.tup M (Reps.append q1 q2)⟩
      · rw [← LIM_eq, ← q1.len, ← q2.len]
        exact hl
      · subst e
        have q := Reps.append q1 q2
        exact p.same M ⟨b, ws, rfl, h2, q⟩
      · subst e
        have q := Reps.append q1 q2
        rw [List.append_nil] at q
        exact p.same M ⟨a, vs, rfl, h1, q⟩
    · exact p.elim
  · split at p
    · rename_i e1 e2
      split at p
      · rename_i hl
        obtain ⟨a, vs, rfl, h1, q1⟩ := listD_rep e1 M r1
        obtain ⟨b, ws, rfl, h2, q2⟩ := listD_rep e2 M r2
        refine op_cat pins s σ H _ _ v u Q I rx ry ⟨a, b, vs, ws, rfl, rfl, h1, h2, ?_, p.lst M (Reps.append q1 q2)⟩
        rw [← LIM_eq, ← q1.len, ← q2.len]
        exact hl
      · exact p.elim
    · exact p.elim
theorem or_sub : OpR X (binaryOp .Sub) (rD (kk X ψ) opSub) := by
  intro pins s σ H x y v u Q I rx ry ⟨φ, m, dx, dy, M, r1, r2, p⟩
  unfold opSub at p
  split at p
  · exact op_sub pins s σ H x y v u Q I rx ry ⟨_, _, r1, r2, p.same M rfl⟩
  · exact p.elim
theorem or_div : OpR X (binaryOp .FloorDiv) (rD (kk X ψ) opDiv) := by
  intro pins s σ H x y v u Q I rx ry ⟨φ, m, dx, dy, M, r1, r2, p⟩
  unfold opDiv at p
  split at p
  · split at p
    · rename_i h
      exact op_fdivW pins s σ H x y v u Q I rx ry ⟨_, _, r1, r2, h, p.same M rfl⟩
    · exact p.elim
  · exact p.elim
theorem or_mod : OpR X (binaryOp .Mod) (rD (kk X ψ) opMod) := by
  intro pins s σ H x y v u Q I rx ry ⟨φ, m, dx, dy, M, r1, r2, p⟩
  unfold opMod at p
  split at p
  · split at p
    · rename_i h
      exact op_mod pins s σ H x y v u Q I rx ry ⟨_, _, r1, r2, h, p.same M rfl⟩
    · exact p.elim
  · exact p.elim
theorem or_pow : OpR X (binaryOp .Pow) (rD (kk X ψ) opPow) := by
  intro pins s σ H x y v u Q I rx ry ⟨φ, m, dx, dy, M, r1, r2, p⟩
  unfold opPow at p
  split at p
  · split at p
    · rename_i h
      exact op_pow pins s σ H x y v u Q I rx ry ⟨_, _, r1, r2, h, p.same M rfl⟩
    · exact p.elim
  · exact p.elim
end
end Fp

set_option maxHeartbeats 4000000
/-! Fp3: tuple times int, comparisons, subscripts -/
namespace Fp
open PySem PySem.Spec PyProof.Rows L2
open AutoSeq1 (wpAny_loadPart')
theorem tup_mul_same (l : Addr) (items : Array Value) (n : Nat) (dd : Option Addr) (sl : Array (Option Value)) (x : Int) (u : Tok) (c0 : (decide (x < -(2 ^ 63)) || decide (x ≥ 2 ^ 63)) = false) (c1 : (items.isEmpty || x == 1) = true) :
    Meets (Builtin.«tuple.__mul__» ⟨[.ref l, .int x u], []⟩) (fun _ R s => s.heap.get? l = some { cls := .type "tuple", dict := dd, data := .seq items n, slots := sl } ∧ R (.ok (.ret (Value.ref l))) s) :=
  .of_wp fun prog w A R s h => by
    obtain ⟨hp, g, d, tk, os⟩ := s
    obtain ⟨hl, h⟩ := h
    have f1 := AutoSeq1.idx_int
    wp_walk using wpAny_loadPart' hl
    refine wpAny_ite_false (decide_eq_false (by rw [c0]; exact Bool.false_ne_true)) ?_
    wp_walk using wpAny_loadPart' hl
    exact ⟨_, rfl, h⟩
theorem tup_mul_none (l : Addr) (items : Array Value) (n : Nat) (dd : Option Addr) (sl : Array (Option Value)) (x : Int) (u : Tok) (c0 : (decide (x < -(2 ^ 63)) || decide (x ≥ 2 ^ 63)) = false) (c1 : (items.isEmpty || x == 1) = false) (c2 : (decide (x ≤ 0) || items.isEmpty) = true) :
    Meets (Builtin.«tuple.__mul__» ⟨[.ref l, .int x u], []⟩) (fun _ R s => s.heap.get? l = some { cls := .type "tuple", dict := dd, data := .seq items n, slots := sl } ∧
      R (.ok (.ret (Value.ref s.heap.objs.size))) { s with heap := s.heap.push { cls := Value.type "tuple", data := Data.seq #[] }, toks := s.toks }) :=
  .of_wp fun prog w A R s h => by
    obtain ⟨hp, g, d, tk, os⟩ := s
    obtain ⟨hl, h⟩ := h
    have f1 := AutoSeq1.idx_int
    wp_walk using wpAny_loadPart' hl
    refine wpAny_ite_false (decide_eq_false (by rw [c0]; exact Bool.false_ne_true)) ?_
    wp_walk using wpAny_loadPart' hl
    repeat (first
      | (refine wpAny_ite_false (decide_eq_false (by rw [c1]; exact Bool.false_ne_true)) ?_; wp_walk using wpAny_loadPart' hl)
      | (refine wpAny_ite_true (decide_eq_true c2) ?_; wp_walk using wpAny_loadPart' hl)
      | (rw [if_pos c2]; wp_walk using wpAny_loadPart' hl))
    exact ⟨_, rfl, h⟩

/-! ### int products, tuple times int -/
section
variable {X : Cx} {ψ : List Addr}
theorem or_mul : OpR X (binaryOp .Mult) (rD (kk X ψ) opMul) := by
  intro pins s σ H x y v u Q I rx ry ⟨φ, m, dx, dy, M, r1, r2, p⟩
  unfold opMul at p
  split at p
  · split at p
    · rename_i h
      exact op_mulW pins s σ H x y v u Q I rx ry ⟨_, _, r1, r2, h, p.same M rfl⟩
    · exact p.elim
  · rename_i ds k
    split at p
    · rename_i h
      obtain ⟨a, xs, rfl, hT, q1⟩ := r1
      obtain rfl : y = .int k := r2
      have hl := q1.len
      by_cases hb : 2 ≤ k ∧ xs ≠ []
      · exact op_repT pins s σ H _ _ v u Q I rx ry ⟨a, k, xs, rfl, rfl, hT, hb.2, hb.1, h.2.1, by omega, p.tup M (Reps.rep q1 k.toNat)⟩
      · obtain ⟨t, rfl⟩ := ry
        cases rx
        obtain ⟨its, r, ⟨⟨cls, dd, data, sl⟩, ho, hc, n, hd⟩, hs⟩ := I.tuple hT
        simp only at hc hd
        subst hc hd
        have hle : its.length = xs.length := r.length.symm
        have c0 : (decide (k < -(2 ^ 63)) || decide (k ≥ 2 ^ 63)) = false := by
          rw [decide_eq_false (by omega), decide_eq_false (by omega)] <;> rfl
        by_cases c1 : (its.toArray.isEmpty || k == 1) = true
        · refine wpAny_binaryOp_repeat_ref (T := "tuple") (U := "int") (by decide) ⟨_, ho, rfl⟩ (fun s' => typeIs_int s' k t) noFill_tuple_mul F.fills_int_mul F.slot_int_rmul repeat_tuple F.slot_int_index.lookup
            (call_meets F.slot_int_rmul (typeIs_int s k t) F.entry_int_rmul (F.args_int_rmul_2 _ _) (int_rmul_tuple k t a its.toArray n dd sl)
              ⟨ho, rfl, ⟨_, ho, rfl⟩, call_meets F.slot_tuple_mul ⟨_, ho, rfl⟩ F.entry_tuple_mul (F.args_tuple_mul_2 _ _) (tup_mul_same a its.toArray n dd sl k t c0 c1) ⟨ho, ?_⟩⟩)
          refine ⟨.ref a, H, I, rfl, p.same M ⟨a, xs, rfl, hT, ?_⟩⟩
          have q := Reps.rep q1 k.toNat
          have e : (List.replicate k.toNat xs).flatten = xs := by
            rw [Bool.or_eq_true] at c1
            rcases c1 with c1 | c1
            · have e0 : xs = [] := by
                have e1 : its = [] := by simpa using c1
                rw [e1] at hle
                exact List.eq_nil_of_length_eq_zero hle.symm
              rw [e0]
              simp
            · have e1 : k = 1 := by simpa using c1
              rw [e1]
              simp
          rw [e] at q
          exact q
        · have c1' : (its.toArray.isEmpty || k == 1) = false := by simpa using c1
          have hk : k ≤ 0 := by
            rw [Bool.or_eq_false_iff] at c1'
            have hne : xs ≠ [] := fun e => by
              rw [e] at hle
              have e1 : its = [] := List.eq_nil_of_length_eq_zero hle
              rw [e1] at c1'
              exact absurd c1'.1 (by simp)
            have h1 : ¬ k = 1 := by simpa using c1'.2
            have h2 : ¬ 2 ≤ k := fun z => hb ⟨z, hne⟩
            omega
          refine wpAny_binaryOp_repeat_ref (T := "tuple") (U := "int") (by decide) ⟨_, ho, rfl⟩ (fun s' => typeIs_int s' k t) noFill_tuple_mul F.fills_int_mul F.slot_int_rmul repeat_tuple F.slot_int_index.lookup
            (call_meets F.slot_int_rmul (typeIs_int s k t) F.entry_int_rmul (F.args_int_rmul_2 _ _) (int_rmul_tuple k t a its.toArray n dd sl)
              ⟨ho, rfl, ⟨_, ho, rfl⟩, call_meets F.slot_tuple_mul ⟨_, ho, rfl⟩ F.entry_tuple_mul (F.args_tuple_mul_2 _ _) (tup_mul_none a its.toArray n dd sl k t c0 c1' (by rw [decide_eq_true hk]; rfl)) ⟨ho, ?_⟩⟩)
          have q := Reps.rep q1 k.toNat
          have e : k.toNat = 0 := by omega
          rw [e] at q p
          refine ⟨.ref s.heap.objs.size, _, I.laid (t' := s.toks) (o := .tup []) (fun b ob q => Heap.get?_push_of_some _ q) (Nat.le_refl _) ?_, rfl, p.tup M q _ (I.hok.fresh (Nat.le_refl _))⟩
          exact ⟨Nat.zero_le _, [], .nil, IsTup.new _ _⟩
    · exact p.elim
  · exact p.elim
end

/-! ### comparisons -/
section
variable {K : KK} {φ : List Addr} {H : Hp} {m : Mem}
mutual
theorem pyD_rep : ∀ (d : D) (q : PyData) (v : V), pyD d = some q → Rep K φ H d v → Dp K.K H v q
  | .non, _, _, h, r => by
    cases h
    obtain rfl : _ = _ := r
    exact .non
  | .bl b, _, _, h, r => by
    cases h
    obtain rfl : _ = _ := r
    exact .bl b
  | .int i, _, _, h, r => by
    cases h
    obtain rfl : _ = _ := r
    exact .int i
  | .str x, _, _, h, r => by
    cases h
    obtain rfl : _ = _ := r
    exact .str x
  | .tup ds, q, v, h, r => by
    obtain ⟨a, vs, rfl, h1, h2⟩ := r
    rw [pyD] at h
    obtain ⟨qs, e, rfl⟩ := Option.map_eq_some_iff.mp h
    exact .tup h1 (pyDs_rep ds qs vs e h2)
  | .lst ds, q, v, h, r => by
    obtain ⟨a, vs, rfl, h1, _, h2⟩ := r
    rw [pyD] at h
    obtain ⟨qs, e, rfl⟩ := Option.map_eq_some_iff.mp h
    exact .lst (SqL.of h1) (pyDs_rep ds qs vs e h2)
  | .scr is, q, v, h, r => by
    obtain ⟨a, rfl, h1⟩ := r
    cases h
    refine .lst (xs := is.map V.int) ?_ ?_
    · rcases h1 with ⟨o, h1⟩ | h1
      · exact .inl (.inr ⟨o, h1⟩)
      · exact .inr h1
    · induction is with
      | nil => exact .nil
      | cons i is ih => exact .cons (.int i) (by
          clear h1 ih
          induction is with
          | nil => exact .nil
          | cons j is ih2 => exact .cons (.int j) ih2)
  | .dct _ _, _, _, h, _ => by cases h
  | .ref _, _, _, h, _ => by cases h
theorem pyDs_rep : ∀ (ds : List D) (qs : List PyData) (vs : List V), pyDs ds = some qs → Reps K φ H ds vs → DpAll K.K H vs qs
  | [], _, _, h, r => by
    cases h
    obtain rfl : _ = [] := r
    exact .nil
  | d :: ds, qs, vs, h, r => by
    obtain ⟨v, r', rfl, h1, h2⟩ := r
    rw [pyDs] at h
    split at h
    · rename_i a b ea eb
      cases h
      exact .cons (pyD_rep d a v ea h1) (pyDs_rep ds b r' eb h2)
    · cases h
end
theorem pyM_rep {d : D} {q : PyData} {v : V} (h : pyM d m = some q) (M : MRep K φ H m) (r : Rep K φ H d v) : Dp K.K H v q := by
  unfold pyM at h
  split at h
  · rename_i n
    split at h
    · rename_i es he
      obtain ⟨a, rfl, hn⟩ := r
      obtain ⟨b, hb, vs, h1, h2⟩ := M.ob n _ he
      rw [hn] at hb
      cases hb
      obtain ⟨qs, e, rfl⟩ := Option.map_eq_some_iff.mp h
      exact .lst (SqL.of h1) (pyDs_rep es qs vs e h2)
    · cases h
  · exact pyD_rep d q v h r
theorem flat_rep {d : D} {v : V} (h : flatD d = true) (r : Rep K φ H d v) : flatV v = true := by
  cases d with
  | non => obtain rfl : v = .non := r; rfl
  | bl b => obtain rfl : v = .bl b := r; rfl
  | int i => obtain rfl : v = .int i := r; rfl
  | str x => obtain rfl : v = .str x := r; rfl
  | _ => cases h
theorem eqF_rep {d e : D} {v w : V} (h : flatD d = true) (h' : flatD e = true) (r : Rep K φ H d v) (r' : Rep K φ H e w) : eqV v w = eqF d e := by
  cases d with
  | non =>
    obtain rfl : v = .non := r
    cases e with
    | non => obtain rfl : w = .non := r'; rfl
    | bl b => obtain rfl : w = .bl b := r'; rfl
    | int i => obtain rfl : w = .int i := r'; rfl
    | str x => obtain rfl : w = .str x := r'; rfl
    | _ => cases h'
  | bl a =>
    obtain rfl : v = .bl a := r
    cases e with
    | non => obtain rfl : w = .non := r'; rfl
    | bl b => obtain rfl : w = .bl b := r'; rfl
    | int i => obtain rfl : w = .int i := r'; rfl
    | str x => obtain rfl : w = .str x := r'; rfl
    | _ => cases h'
  | int a =>
    obtain rfl : v = .int a := r
    cases e with
    | non => obtain rfl : w = .non := r'; rfl
    | bl b => obtain rfl : w = .bl b := r'; rfl
    | int i => obtain rfl : w = .int i := r'; rfl
    | str x => obtain rfl : w = .str x := r'; rfl
    | _ => cases h'
  | str a =>
    obtain rfl : v = .str a := r
    cases e with
    | non => obtain rfl : w = .non := r'; rfl
    | bl b => obtain rfl : w = .bl b := r'; rfl
    | int i => obtain rfl : w = .int i := r'; rfl
    | str x => obtain rfl : w = .str x := r'; rfl
    | _ => cases h'
  | _ => cases h
theorem flats_rep : ∀ {ds : List D} {vs : List V}, ds.all flatD = true → Reps K φ H ds vs → vs.all flatV = true
  | [], vs, _, r => by
    obtain rfl : vs = [] := r
    rfl
  | d :: ds, vs, h, r => by
    obtain ⟨v, r', rfl, h1, h2⟩ := r
    rw [List.all_cons, Bool.and_eq_true] at h
    rw [List.all_cons, flat_rep h.1 h1, flats_rep h.2 h2]
    rfl
theorem memF_rep {x : D} {v : V} (hx : flatD x = true) (rx : Rep K φ H x v) : ∀ {ds : List D} {vs : List V}, ds.all flatD = true → Reps K φ H ds vs → inV v vs = memF x ds
  | [], vs, _, r => by
    obtain rfl : vs = [] := r
    rfl
  | d :: ds, vs, h, r => by
    obtain ⟨w, r', rfl, h1, h2⟩ := r
    rw [List.all_cons, Bool.and_eq_true] at h
    have ih := memF_rep hx rx h.2 h2
    unfold inV memF at ih ⊢
    rw [List.any_cons, List.any_cons, ih, eqF_rep h.1 hx h1 rx]
end
section
variable {X : Cx} {ψ : List Addr}
theorem or_eq (hu : X.A.units + 64 < cLine) : OpR X (compareOp .Eq) (rD (kk X ψ) (opC cpEq)) := by
  intro pins s σ H x y v u Q I rx ry ⟨φ, m, dx, dy, M, r1, r2, p⟩
  unfold opC cpEq eqD at p
  split at p
  · rename_i b hb
    split at hb
    · rename_i a c ea ec
      split at hb
      · rename_i hs
        cases hb
        exact op_eqD hu pins s σ H x y v u Q I rx ry ⟨a, c, pyM_rep ea M r1, pyM_rep ec M r2, hs.1, hs.2, p.same M rfl⟩
      · cases hb
    · cases hb
  · exact p.elim
theorem or_ne (hu : X.A.units + 64 < cLine) : OpR X (compareOp .NotEq) (rD (kk X ψ) (opC cpNe)) := by
  intro pins s σ H x y v u Q I rx ry ⟨φ, m, dx, dy, M, r1, r2, p⟩
  unfold opC cpNe eqD at p
  split at p
  · rename_i b hb
    split at hb
    · rename_i a c ea ec
      split at hb
      · rename_i hs
        cases hb
        exact op_neD hu pins s σ H x y v u Q I rx ry ⟨a, c, pyM_rep ea M r1, pyM_rep ec M r2, hs.1, hs.2, p.same M rfl⟩
      · cases hb
    · cases hb
  · exact p.elim
theorem or_lt : OpR X (compareOp .Lt) (rD (kk X ψ) (opC cpLt)) := by
  intro pins s σ H x y v u Q I rx ry ⟨φ, m, dx, dy, M, r1, r2, p⟩
  unfold opC cpLt at p
  split at p
  · rename_i b hb
    split at hb
    · cases hb
      exact op_lt pins s σ H x y v u Q I rx ry ⟨_, _, r1, r2, p.same M rfl⟩
    · cases hb
      exact op_lt_str pins s σ H x y v u Q I rx ry ⟨_, _, r1, r2, p.same M rfl⟩
    · cases hb
  · exact p.elim
theorem or_le : OpR X (compareOp .LtE) (rD (kk X ψ) (opC cpLe)) := by
  intro pins s σ H x y v u Q I rx ry ⟨φ, m, dx, dy, M, r1, r2, p⟩
  unfold opC cpLe at p
  split at p
  · rename_i b hb
    split at hb
    · cases hb
      exact op_le pins s σ H x y v u Q I rx ry ⟨_, _, r1, r2, p.same M rfl⟩
    · cases hb
  · exact p.elim
theorem or_gt : OpR X (compareOp .Gt) (rD (kk X ψ) (opC cpGt)) := by
  intro pins s σ H x y v u Q I rx ry ⟨φ, m, dx, dy, M, r1, r2, p⟩
  unfold opC cpGt at p
  split at p
  · rename_i b hb
    split at hb
    · cases hb
      exact op_gt pins s σ H x y v u Q I rx ry ⟨_, _, r1, r2, p.same M rfl⟩
    · cases hb
  · exact p.elim
theorem or_ge : OpR X (compareOp .GtE) (rD (kk X ψ) (opC cpGe)) := by
  intro pins s σ H x y v u Q I rx ry ⟨φ, m, dx, dy, M, r1, r2, p⟩
  unfold opC cpGe at p
  split at p
  · rename_i b hb
    split at hb
    · cases hb
      exact op_ge pins s σ H x y v u Q I rx ry ⟨_, _, r1, r2, p.same M rfl⟩
    · cases hb
  · exact p.elim
theorem cpIn_run {neg : Bool} {op : CmpOp} (ho : op = if neg then .NotIn else .In) (hu : X.A.units + 1 < cLine) {pins : List (Addr × Obj)} {s : Shared} {σ : L2.St} {H : Hp} {x y : V} {v u : Value} {Q : VK} {φ : List Addr} {m : Mem} {dx dy : D}
    (I : Inv X pins σ H s) (rx : RelV x v) (ry : RelV y u) (M : MRep (kk X ψ) φ H m) (r1 : Rep (kk X ψ) φ H dx x) (r2 : Rep (kk X ψ) φ H dy y) {b : Bool} (hb : cpIn dx dy m = some b) (q : Q (.bl (if neg then !b else b)) H) :
    wpAny (model X.prog X.w) X.A (compareOp op v u) (EP X pins σ Q) X.xe s := by
  unfold cpIn at hb
  split at hb
  · rename_i ds hd
    split at hb
    · rename_i hf
      cases hb
      obtain ⟨a, vs, rfl, hq, q2⟩ := itemsD_rep hd M r2
      rw [← memF_rep hf.1 r1 hf.2 q2] at q
      cases neg with
      | true =>
        subst ho
        exact op_notIn_seq pins s σ H x _ v u Q I rx ry ⟨a, vs, rfl, hq, flat_rep hf.1 r1, flats_rep hf.2 q2, q⟩
      | false =>
        subst ho
        exact op_in_seq pins s σ H x _ v u Q I rx ry ⟨a, vs, rfl, hq, flat_rep hf.1 r1, flats_rep hf.2 q2, q⟩
    · cases hb
  · split at hb
    · rename_i kvs hd
      split at hb
      · rename_i k hk
        cases hb
        obtain ⟨a, us, rfl, h1, kr⟩ := dictD_rep hd M r2
        obtain rfl : x = kV k := keyD_rep hk r1
        have g : DGet H a (kV k) (valV us k) := DGet.k h1
        have e : (valV us k).isSome = (dGet kvs k).isSome := by
          have z := kr.get (k := k)
          split at z
          · rename_i d hd
            obtain ⟨w, hw, _⟩ := z
            rw [hw, hd] <;> rfl
          · rename_i hd
            rw [z, hd] <;> rfl
        rw [← e] at q
        cases ry
        cases neg with
        | true =>
          subst ho
          exact d_notIn hu I g rx fun s1 I1 => ⟨.bl (!(valV us k).isSome), H, I1, rfl, q⟩
        | false =>
          subst ho
          exact d_in hu I g rx fun s1 I1 => ⟨.bl (valV us k).isSome, H, I1, rfl, q⟩
      · cases hb
    · cases hb
theorem or_in (hu : X.A.units + 1 < cLine) : OpR X (compareOp .In) (rD (kk X ψ) (opC cpIn)) := by
  intro pins s σ H x y v u Q I rx ry ⟨φ, m, dx, dy, M, r1, r2, p⟩
  unfold opC at p
  split at p
  · rename_i b hb
    exact cpIn_run (neg := false) rfl hu I rx ry M r1 r2 hb (p.same M rfl)
  · exact p.elim
theorem or_notin (hu : X.A.units + 1 < cLine) : OpR X (compareOp .NotIn) (rD (kk X ψ) (opC cpNotIn)) := by
  intro pins s σ H x y v u Q I rx ry ⟨φ, m, dx, dy, M, r1, r2, p⟩
  unfold opC cpNotIn at p
  split at p
  · rename_i b hb
    obtain ⟨b', hb', rfl⟩ := Option.map_eq_some_iff.mp hb
    exact cpIn_run (neg := true) rfl hu I rx ry M r1 r2 hb' (p.same M rfl)
  · exact p.elim
theorem isNon_rep {K : KK} {φ : List Addr} {H : Hp} {d : D} {v : V} (r : Rep K φ H d v) : isNonD d = decide (v = .non) := by
  cases d with
  | non => obtain rfl : v = .non := r; rfl
  | bl b => obtain rfl : v = .bl b := r; rfl
  | int i => obtain rfl : v = .int i := r; rfl
  | str x => obtain rfl : v = .str x := r; rfl
  | tup ds => obtain ⟨a, _, rfl, _⟩ := r; rfl
  | lst ds => obtain ⟨a, _, rfl, _⟩ := r; rfl
  | dct _ ds => obtain ⟨a, _, rfl, _⟩ := r; rfl
  | scr is => obtain ⟨a, rfl, _⟩ := r; rfl
  | ref n => obtain ⟨a, rfl, _⟩ := r; rfl
theorem or_is : OpR X (compareOp .Is) (rD (kk X ψ) (opC cpIs)) := by
  intro pins s σ H x y v u Q I rx ry ⟨φ, m, dx, dy, M, r1, r2, p⟩
  unfold opC cpIs at p
  split at p
  · rename_i b hb
    split at hb
    · cases hb
      obtain rfl : y = .non := r2
      refine op_isN pins s σ H x _ v u Q I rx ry ⟨rfl, ?_⟩
      rw [← isNon_rep r1]
      exact p.same M rfl
    · split at hb
      · cases hb
        exact op_isBl pins s σ H x y v u Q I rx ry ⟨_, _, r1, r2, p.same M rfl⟩
      · cases hb
    · cases hb
  · exact p.elim
theorem or_isnot : OpR X (compareOp .IsNot) (rD (kk X ψ) (opC cpIsNot)) := by
  intro pins s σ H x y v u Q I rx ry ⟨φ, m, dx, dy, M, r1, r2, p⟩
  unfold opC cpIsNot at p
  split at p
  · rename_i b hb
    obtain ⟨b', hb', rfl⟩ := Option.map_eq_some_iff.mp hb
    unfold cpIs at hb'
    split at hb'
    · obtain rfl := Option.some.inj hb'
      obtain rfl : y = .non := r2
      refine op_notN pins s σ H x _ v u Q I rx ry ⟨rfl, ?_⟩
      rw [← isNon_rep r1]
      exact p.same M rfl
    · split at hb'
      · obtain rfl := Option.some.inj hb'
        exact op_notBl pins s σ H x y v u Q I rx ry ⟨_, _, r1, r2, p.same M rfl⟩
      · cases hb'
    · cases hb'
  · exact p.elim

/-! ### subscripts -/
theorem atI_rep {K : KK} {φ : List Addr} {H : Hp} {ds : List D} {vs : List V} {i : Int} {d : D} (r : Reps K φ H ds vs) (h : atI ds i = some d) : ∃ v, atI vs i = some v ∧ Rep K φ H d v := by
  unfold atI at h ⊢
  rw [r.len] at h
  obtain ⟨j, h1, h2⟩ := Option.bind_eq_some_iff.mp h
  obtain ⟨v, e, q⟩ := r.get h2
  exact ⟨v, by rw [h1]; exact e, q⟩
theorem ir_ix (hu : X.A.units + 1 < cLine) : IxR X (rD (kk X ψ) opIx) := by
  intro value slice pins s σ H x y v u Q I rx ry ⟨φ, m, dx, dy, M, r1, r2, p⟩ hs
  unfold opIx at p
  split at p
  · split at p
    · rename_i hl
      split at p
      · rename_i c hc
        exact ix_str value slice pins s σ H x y v u Q I rx ry ⟨_, _, c, r1, r2, by rw [← LIM_eq]; exact hl, hc, p.same M rfl⟩ hs
      · exact p.elim
    · exact p.elim
  · split at p
    · rename_i ds hd
      split at p
      · rename_i i _
        split at p
        · rename_i d he
          obtain ⟨a, vs, rfl, hq, q2⟩ := itemsD_rep hd M r1
          obtain ⟨w, e, q⟩ := atI_rep q2 he
          obtain rfl : y = .int i := r2
          rcases hq with hq | hq
          · exact ix_list value slice pins s σ H _ _ v u Q I rx ry ⟨a, vs, i, w, rfl, rfl, hq, e, p.same M q⟩ hs
          · exact ix_tup value slice pins s σ H _ _ v u Q I rx ry ⟨a, vs, i, w, rfl, rfl, hq, e, p.same M q⟩ hs
        · exact p.elim
      · exact p.elim
    · split at p
      · rename_i kvs hd
        split at p
        · rename_i k hk
          split at p
          · rename_i d he
            obtain ⟨a, us, rfl, h1, kr⟩ := dictD_rep hd M r1
            obtain rfl : y = kV k := keyD_rep hk r2
            have z := kr.get (k := k)
            rw [he] at z
            obtain ⟨w, hw, q⟩ := z
            have g : DGet H a (kV k) (some w) := by
              rw [← hw]
              exact DGet.k h1
            cases rx
            exact tail_any (dict_typeIs I g) PySem.F.slot_dict_getitem.lookup (d_getItem hu I g ry fun w' s1 I1 rw' => ⟨w, H, I1, rw', p.same M q⟩) hs
          · exact p.elim
        · exact p.elim
      · exact p.elim

/-! ### slices -/
def rSlD (K : KK) : V → Option Int → Option Int → Hp → VK → Prop := fun x lo hi H Q => ∃ (φ : List Addr) (m : Mem) (dx : D), MRep K φ H m ∧ Rep K φ H dx x ∧ PoE K φ H Q (opSl dx lo hi m)
theorem cut_rep {K : KK} {φ : List Addr} {H : Hp} {ds : List D} {vs : List V} (lo hi : Option Int) (r : Reps K φ H ds vs) : Reps K φ H (cutD ds lo hi) (cutV vs lo hi) := by
  unfold cutD cutV
  rw [r.len]
  exact Reps.take _ (Reps.drop _ r)
theorem sl_D : SlR X (rSlD (kk X ψ)) := by
  intro pins s σ H x v vl vu lo hi sl Q I rx hs pl pu ⟨φ, m, dx, M, r1, p⟩
  unfold opSl at p
  split at p
  · rename_i ds
    obtain ⟨a, vs, rfl, h1, q1⟩ := r1
    have q := cut_rep lo hi q1
    refine sl_tupA pins s σ H _ v vl vu lo hi sl Q I rx hs pl pu ⟨a, vs, rfl, h1, fun e => ?_, fun _ => p.tup M q⟩
    refine p.same M ⟨a, vs, rfl, h1, ?_⟩
    have e2 : cutD ds lo hi = ds := by
      unfold cutD
      rw [q1.len, e.1, e.2, List.drop_zero, Nat.sub_zero, ← q1.len, List.take_length]
    rw [e2]
    exact q1
  · split at p
    · rename_i ds hd
      obtain ⟨a, vs, rfl, h1, q1⟩ := listD_rep hd M r1
      exact sl_list pins s σ H _ v vl vu lo hi sl Q I rx hs pl pu ⟨a, vs, rfl, SqL.of h1, p.lst M (cut_rep lo hi q1)⟩
    · exact p.elim
end
end Fp

set_option maxHeartbeats 4000000
/-! Fp4: built-in functions, methods, new objects, stores -/
namespace Fp
open PySem PySem.Spec PyProof.Rows L2
section
variable {K : KK} {φ : List Addr} {H : Hp} {m : Mem}
theorem mkL_new {Q : VK} {al : Bool} {ds : List D} {vs : List V} (p : PoE K φ H Q (mkL al ds m)) (M : MRep K φ H m) (r : Reps K φ H ds vs) : vs.length ≤ sizeLine ∧ ∀ q, H q = none → Q (.ref q) (upd H q (.lst vs)) := by
  unfold mkL at p
  split at p
  · rename_i hl
    refine ⟨by rw [← LIM_eq, ← r.len]; exact hl, ?_⟩
    cases al with
    | false => exact p.lst M r
    | true =>
      intro q hq
      refine p (.ref q) (φ ++ [q]) _ (Ext.alloc M hq) (M.alloc hq ⟨vs, upd_same, Reps.ext M (Ext.alloc M hq) _ _ r⟩) ⟨q, rfl, ?_⟩
      rw [← M.len, List.getElem?_append_right (Nat.le_refl _), Nat.sub_self]
      rfl
  · exact p.elim
theorem mkD_new {Q : VK} {al : Bool} {kvs : List (Key × D)} {us : List (Key × V)} (p : PoE K φ H Q (mkD al kvs m)) (M : MRep K φ H m) (r : KvR K φ H kvs us) : us.length ≤ sizeLine ∧ ∀ q, H q = none → Q (.ref q) (upd H q (.dK us)) := by
  unfold mkD at p
  split at p
  · rename_i hl
    refine ⟨by rw [← LIM_eq, ← r.len]; exact hl, ?_⟩
    cases al with
    | false =>
      intro q hq
      refine p (.ref q) φ _ (Ext.laid M hq) (M.laid hq) ⟨q, us.map (·.2), rfl, ?_, M.new hq, ?_, Reps.ext M (Ext.laid M hq) _ _ r.vals⟩
      · rw [← r.unzip]
        exact upd_same
      · rw [List.length_map, List.length_map, r.len]
    | true =>
      intro q hq
      refine p (.ref q) (φ ++ [q]) _ (Ext.alloc M hq) (M.alloc hq (RepO.dct upd_same (r.ext M (Ext.alloc M hq)))) ⟨q, rfl, ?_⟩
      rw [← M.len, List.getElem?_append_right (Nat.le_refl _), Nat.sub_self]
      rfl
  · exact p.elim
/-- an object of the memory is replaced -/
theorem PoE.setL {Q : VK} {n : Nat} {a : Addr} {ds : List D} {vs : List V} {d : D} {v : V} (p : PoE K φ H Q (.ok (d, m.set n (.lst ds)))) (M : MRep K φ H m) (ha : φ[n]? = some a) (r : Reps K φ H ds vs) (rd : Rep K φ H d v) : Q v (upd H a (.lst vs)) :=
  p v φ _ (Ext.set M ha) (M.set ha ⟨vs, upd_same, Reps.ext M (Ext.set M ha) _ _ r⟩) (Rep.ext M (Ext.set M ha) _ _ rd)
theorem PoE.setD {Q : VK} {n : Nat} {a : Addr} {kvs : List (Key × D)} {us : List (Key × V)} {d : D} {v : V} (p : PoE K φ H Q (.ok (d, m.set n (.dct kvs)))) (M : MRep K φ H m) (ha : φ[n]? = some a) (r : KvR K φ H kvs us) (rd : Rep K φ H d v) : Q v (upd H a (.dK us)) :=
  p v φ _ (Ext.set M ha) (M.set ha (RepO.dct upd_same (r.ext M (Ext.set M ha)))) (Rep.ext M (Ext.set M ha) _ _ rd)
theorem ref_lst {n : Nat} {ds : List D} {v : V} (he : m[n]? = some (.lst ds)) (M : MRep K φ H m) (r : Rep K φ H (.ref n) v) : ∃ a vs, v = .ref a ∧ φ[n]? = some a ∧ H a = some (.lst vs) ∧ Reps K φ H ds vs := by
  obtain ⟨a, e, hn⟩ := r
  obtain ⟨b, hb, vs, h1, h2⟩ := M.ob n _ he
  rw [hn] at hb
  cases hb
  exact ⟨a, vs, e, hn, h1, h2⟩
theorem ref_dct {n : Nat} {kvs : List (Key × D)} {v : V} (he : m[n]? = some (.dct kvs)) (M : MRep K φ H m) (r : Rep K φ H (.ref n) v) : ∃ a us, v = .ref a ∧ φ[n]? = some a ∧ H a = some (.dK us) ∧ KvR K φ H kvs us := by
  obtain ⟨a, e, hn⟩ := r
  obtain ⟨b, hb, vs, h1, h2⟩ := M.ob n _ he
  rw [hn] at hb
  cases hb
  exact ⟨a, _, e, hn, h1, KvR.zip h2⟩
theorem Reps.one {d : D} {vs : List V} (r : Reps K φ H [d] vs) : ∃ v, vs = [v] ∧ Rep K φ H d v := by
  obtain ⟨v, r', rfl, h1, h2⟩ := r
  obtain rfl : r' = [] := h2
  exact ⟨v, rfl, h1⟩
theorem Reps.two {d e : D} {vs : List V} (r : Reps K φ H [d, e] vs) : ∃ v w, vs = [v, w] ∧ Rep K φ H d v ∧ Rep K φ H e w := by
  obtain ⟨v, r', rfl, h1, h2⟩ := r
  obtain ⟨w, rfl, h3⟩ := Reps.one h2
  exact ⟨v, w, rfl, h1, h3⟩
theorem Reps.zero {vs : List V} (r : Reps K φ H [] vs) : vs = [] := r
end

/-! ### calls of built-ins -/
def rB (K : KK) (f : List D → Mem → RD) : List V → Hp → VK → Prop := fun xs H Q => ∃ (φ : List Addr) (m : Mem) (ds : List D), MRep K φ H m ∧ Reps K φ H ds xs ∧ PoE K φ H Q (f ds m)
section
variable {X : Cx} {ψ : List Addr}
theorem cb_len : CallR X (.builtin "len") (rB (kk X ψ) (one biLen)) := by
  intro pins s σ H xs us Q I rs ⟨φ, m, ds, M, r, p⟩
  unfold one biLen at p
  split at p
  · obtain ⟨v, rfl, r1⟩ := r.one
    split at p
    · split at p
      · rename_i hl
        exact call_len_str pins s σ H _ us Q I rs ⟨_, congrArg (fun z => [z]) r1, by rw [← LIM_eq]; exact hl, p.same M rfl⟩
      · exact p.elim
    · split at p
      · rename_i ds hd
        obtain ⟨a, vs, rfl, hq, q⟩ := itemsD_rep hd M r1
        refine call_len_seq pins s σ H _ us Q I rs ⟨a, vs, rfl, hq, ?_⟩
        rw [← q.len]
        exact p.same M rfl
      · exact p.elim
  · exact p.elim
theorem cb_tuple : CallR X (.type "tuple") (rB (kk X ψ) (one biTuple)) := by
  intro pins s σ H xs us Q I rs ⟨φ, m, ds, M, r, p⟩
  unfold one biTuple at p
  split at p
  · obtain ⟨v, rfl, r1⟩ := r.one
    split at p
    · rename_i ds hd
      rcases itemsD_tup hd M r1 with ⟨a, vs, rfl, rfl, hq, q⟩ | ⟨a, vs, rfl, hq, q⟩
      · exact call_tuple_of pins s σ H _ us Q I rs ⟨a, vs, rfl, .inr ⟨hq, p.same M r1⟩⟩
      · exact call_tuple_of pins s σ H _ us Q I rs ⟨a, vs, rfl, .inl ⟨hq, p.tup M q⟩⟩
    · exact p.elim
  · exact p.elim
theorem cb_list (al : Bool) : CallR X (.type "list") (rB (kk X ψ) (one (biList al))) := by
  intro pins s σ H xs us Q I rs ⟨φ, m, ds, M, r, p⟩
  unfold one biList at p
  split at p
  · obtain ⟨v, rfl, r1⟩ := r.one
    split at p
    · rename_i ds hd
      obtain ⟨a, vs, rfl, hq, q⟩ := itemsD_rep hd M r1
      exact call_list_of pins s σ H _ us Q I rs ⟨a, vs, rfl, hq, (mkL_new p M q).2⟩
    · exact p.elim
  · exact p.elim
theorem cb_dict (al : Bool) : CallR X (.type "dict") (rB (kk X ψ) (one (biDict al))) := by
  intro pins s σ H xs us Q I rs ⟨φ, m, ds, M, r, p⟩
  unfold one biDict at p
  split at p
  · obtain ⟨v, rfl, r1⟩ := r.one
    split at p
    · rename_i ds hd
      obtain ⟨a, vs, rfl, hq, q⟩ := dictD_rep hd M r1
      exact call_dictD pins s σ H _ us Q I rs ⟨a, vs, rfl, .inl hq, (mkD_new p M q).2⟩
    · exact p.elim
  · exact p.elim
theorem cb_int : CallR X (.type "int") (rB (kk X ψ) (one biInt)) := by
  intro pins s σ H xs us Q I rs ⟨φ, m, ds, M, r, p⟩
  unfold one biInt at p
  split at p
  · obtain ⟨v, rfl, r1⟩ := r.one
    split at p
    · exact call_int1 pins s σ H _ us Q I rs (.inl ⟨_, congrArg (fun z => [z]) r1, p.same M rfl⟩)
    · exact call_int1 pins s σ H _ us Q I rs (.inr ⟨_, congrArg (fun z => [z]) r1, p.same M rfl⟩)
    · exact p.elim
  · exact p.elim
theorem cb_abs : CallR X (.builtin "abs") (rB (kk X ψ) (one biAbs)) := by
  intro pins s σ H xs us Q I rs ⟨φ, m, ds, M, r, p⟩
  unfold one biAbs at p
  split at p
  · obtain ⟨v, rfl, r1⟩ := r.one
    split at p
    · exact call_abs pins s σ H _ us Q I rs ⟨_, congrArg (fun z => [z]) r1, p.same M rfl⟩
    · exact p.elim
  · exact p.elim
theorem cb_min (hc : X.calm = true) : CallR X (.builtin "min") (rB (kk X ψ) biMin) := by
  intro pins s σ H xs us Q I rs ⟨φ, m, ds, M, r, p⟩
  unfold biMin at p
  split at p
  · obtain ⟨v, w, rfl, r1, r2⟩ := r.two
    obtain rfl : v = .int _ := r1
    obtain rfl : w = .int _ := r2
    exact call_min2 hc pins s σ H _ us Q I rs ⟨_, _, rfl, p.same M rfl⟩
  · exact p.elim
theorem cb_max (hc : X.calm = true) : CallR X (.builtin "max") (rB (kk X ψ) biMax) := by
  intro pins s σ H xs us Q I rs ⟨φ, m, ds, M, r, p⟩
  unfold biMax at p
  split at p
  · obtain ⟨v, w, rfl, r1, r2⟩ := r.two
    obtain rfl : v = .int _ := r1
    obtain rfl : w = .int _ := r2
    exact call_max2 hc pins s σ H _ us Q I rs ⟨_, _, rfl, p.same M rfl⟩
  · exact p.elim
theorem bools_rep {K : KK} {φ : List Addr} {H : Hp} : ∀ {ds : List D} {bs : List Bool} {vs : List V}, boolsD ds = some bs → Reps K φ H ds vs → vs = bs.map V.bl
  | [], _, vs, h, r => by
    cases h
    exact r
  | .bl b :: ds, bs, vs, h, r => by
    obtain ⟨v, r', rfl, h1, h2⟩ := r
    obtain ⟨cs, hc, rfl⟩ := Option.map_eq_some_iff.mp (show (boolsD ds).map (b :: ·) = some bs from h)
    obtain rfl : v = .bl b := h1
    rw [bools_rep hc h2]
    rfl
  | .non :: _, _, _, h, _ => by cases h
  | .int _ :: _, _, _, h, _ => by cases h
  | .str _ :: _, _, _, h, _ => by cases h
  | .tup _ :: _, _, _, h, _ => by cases h
  | .lst _ :: _, _, _, h, _ => by cases h
  | .dct _ _ :: _, _, _, h, _ => by cases h
  | .scr _ :: _, _, _, h, _ => by cases h
  | .ref _ :: _, _, _, h, _ => by cases h
theorem cb_any (hc : X.calm = true) : CallR X (.builtin "any") (rB (kk X ψ) (one biAny)) := by
  intro pins s σ H xs us Q I rs ⟨φ, m, ds, M, r, p⟩
  unfold one biAny at p
  split at p
  · obtain ⟨v, rfl, r1⟩ := r.one
    split at p
    · rename_i bs hb
      obtain ⟨ds, hd, hb⟩ := Option.bind_eq_some_iff.mp hb
      obtain ⟨a, vs, rfl, hq, q⟩ := listD_rep hd M r1
      obtain rfl := bools_rep hb q
      exact cr_any hc pins s σ H _ us Q I rs ⟨a, bs, rfl, SqL.of hq, p.same M rfl⟩
    · exact p.elim
  · exact p.elim
theorem cb_all (hc : X.calm = true) : CallR X (.builtin "all") (rB (kk X ψ) (one biAll)) := by
  intro pins s σ H xs us Q I rs ⟨φ, m, ds, M, r, p⟩
  unfold one biAll at p
  split at p
  · obtain ⟨v, rfl, r1⟩ := r.one
    split at p
    · rename_i bs hb
      obtain ⟨ds, hd, hb⟩ := Option.bind_eq_some_iff.mp hb
      obtain ⟨a, vs, rfl, hq, q⟩ := listD_rep hd M r1
      obtain rfl := bools_rep hb q
      exact cr_all hc pins s σ H _ us Q I rs ⟨a, bs, rfl, SqL.of hq, p.same M rfl⟩
    · exact p.elim
  · exact p.elim
end

/-! ### methods -/
def rM (K : KK) (f : D → List D → Mem → RD) : V → List V → Hp → VK → Prop := fun x xs H Q => ∃ (φ : List Addr) (m : Mem) (d : D) (es : List D), MRep K φ H m ∧ Rep K φ H d x ∧ Reps K φ H es xs ∧ PoE K φ H Q (f d es m)
section
variable {X : Cx} {ψ : List Addr}
theorem mm_append : MtR X "list.append" (rM (kk X ψ) mAppend) := by
  intro pins s σ H x xs v us Q I rx rs ⟨φ, m, d, es, M, r, r', p⟩
  unfold mAppend at p
  split at p
  · rename_i n e
    obtain ⟨w, rfl, r1⟩ := r'.one
    split at p
    · rename_i ds he
      split at p
      · rename_i hl
        obtain ⟨a, vs, rfl, ha, h1, q⟩ := ref_lst he M r
        exact mt_append pins s σ H _ _ v us Q I rx rs ⟨a, vs, w, rfl, rfl, h1, by rw [← LIM_eq, ← q.len]; exact hl, p.setL M ha (Reps.append q (Reps.cons r1 Reps.nil)) rfl⟩
      · exact p.elim
    · exact p.elim
  · exact p.elim
theorem mm_extend : MtR X "list.extend" (rM (kk X ψ) mExtend) := by
  intro pins s σ H x xs v us Q I rx rs ⟨φ, m, d, es, M, r, r', p⟩
  unfold mExtend at p
  split at p
  · rename_i n e
    obtain ⟨w, rfl, r1⟩ := r'.one
    split at p
    · rename_i ds xs he hx
      split at p
      · rename_i hl
        obtain ⟨a, vs, rfl, ha, h1, q⟩ := ref_lst he M r
        obtain ⟨b, ws, rfl, h2, q2⟩ := listD_rep hx M r1
        exact mt_extend pins s σ H _ _ v us Q I rx rs ⟨a, b, vs, ws, rfl, rfl, h1, h2, by rw [← LIM_eq, ← q.len, ← q2.len]; exact hl, p.setL M ha (Reps.append q q2) rfl⟩
      · exact p.elim
    · exact p.elim
  · exact p.elim
theorem Reps.dropLast {K : KK} {φ : List Addr} {H : Hp} {ds : List D} {vs : List V} (r : Reps K φ H ds vs) : Reps K φ H ds.dropLast vs.dropLast := by
  rw [List.dropLast_eq_take, List.dropLast_eq_take, r.len]
  exact Reps.take _ r
theorem mm_pop : MtR X "list.pop" (rM (kk X ψ) mPop) := by
  intro pins s σ H x xs v us Q I rx rs ⟨φ, m, d, es, M, r, r', p⟩
  unfold mPop at p
  split at p
  · rename_i n
    obtain rfl := r'.zero
    split at p
    · rename_i ds he
      split at p
      · rename_i e hl
        obtain ⟨a, vs, rfl, ha, h1, q⟩ := ref_lst he M r
        obtain ⟨w, hw, rw'⟩ := q.get hl
        exact mt_pop pins s σ H _ _ v us Q I rx rs ⟨a, vs, w, rfl, rfl, h1, by rw [← q.len]; exact hw, p.setL M ha q.dropLast rw'⟩
      · exact p.elim
    · exact p.elim
  · exact p.elim
theorem get_rep {K : KK} {φ : List Addr} {H : Hp} {kvs : List (Key × D)} {us : List (Key × V)} {k : Key} {e : D} {w : V} (kr : KvR K φ H kvs us) (r : Rep K φ H e w) : Rep K φ H ((dGet kvs k).getD e) ((valV us k).getD w) := by
  have z := kr.get (k := k)
  split at z
  · rename_i d hd
    obtain ⟨w', hw, q⟩ := z
    rw [hd, hw]
    exact q
  · rename_i hd
    rw [hd, z]
    exact r
theorem mm_get1 (hu : X.A.units + 1 < cLine) : MtR X "dict.get" (rM (kk X ψ) mGet1) := by
  intro pins s σ H x xs v us Q I rx rs ⟨φ, m, d, es, M, r, r', p⟩
  unfold mGet1 at p
  split at p
  · rename_i kvs e hd
    obtain ⟨w, rfl, r1⟩ := r'.one
    split at p
    · rename_i k hk
      obtain ⟨a, us', rfl, h1, kr⟩ := dictD_rep hd M r
      obtain rfl : w = kV k := keyD_rep hk r1
      obtain ⟨u, rfl, ru⟩ := rs.one
      cases rx
      exact d_get1 hu I (DGet.k h1) ru fun w' s1 I1 rw' => ⟨_, H, I1, rw', p.same M (get_rep kr rfl)⟩
    · exact p.elim
  · exact p.elim
theorem mm_get2 (hu : X.A.units + 1 < cLine) : MtR X "dict.get" (rM (kk X ψ) mGet2) := by
  intro pins s σ H x xs v us Q I rx rs ⟨φ, m, d, es, M, r, r', p⟩
  unfold mGet2 at p
  split at p
  · rename_i kvs e f hd
    obtain ⟨w, w2, rfl, r1, r2⟩ := r'.two
    split at p
    · rename_i k hk
      obtain ⟨a, us', rfl, h1, kr⟩ := dictD_rep hd M r
      obtain rfl : w = kV k := keyD_rep hk r1
      obtain ⟨u, u2, rfl, ru, ru2⟩ := rs.two
      cases rx
      exact d_get2 hu I (DGet.k h1) ru ru2 fun w' s1 I1 rw' => ⟨_, H, I1, rw', p.same M (get_rep kr r2)⟩
    · exact p.elim
  · exact p.elim
theorem mm_update : MtR X "dict.update" (rM (kk X ψ) mUpdate) := by
  intro pins s σ H x xs v us Q I rx rs ⟨φ, m, d, es, M, r, r', p⟩
  unfold mUpdate at p
  split at p
  · rename_i n e
    obtain ⟨w, rfl, r1⟩ := r'.one
    split at p
    · rename_i kvs more he hm
      split at p
      · rename_i hl
        obtain ⟨a, us1, rfl, ha, h1, kr⟩ := ref_dct he M r
        obtain ⟨b, us2, rfl, h2, kr2⟩ := dictD_rep hm M r1
        obtain ⟨u, rfl, ru⟩ := rs.one
        cases rx
        cases ru
        have hne : a ≠ b := fun z => by
          subst z
          cases e with
          | ref k =>
            obtain ⟨c, ec, hc⟩ := r1
            cases ec
            have e1 : n = k := (List.getElem?_inj (List.getElem?_eq_some_iff.mp ha).1 M.nd).mp (ha.trans hc.symm)
            have e2 : (k == n) = false := hl.1
            rw [e1, beq_self_eq_true] at e2
            cases e2
          | dct ks ds =>
            obtain ⟨c, _, ec, _, hn, _⟩ := r1
            cases ec
            exact hn.1 (List.mem_of_getElem? ha)
          | _ => cases hm
        obtain ⟨z1, d1, vs1, rel1, dd1⟩ := dk_of I.hok h1
        obtain ⟨z2, d2, vs2, rel2, dd2⟩ := dk_of I.hok h2
        have hlen : us1.length + us2.length ≤ sizeLine := by
          rw [← LIM_eq, ← kr.len, ← kr2.len]
          exact hl.2
        refine call_meetsIn PySem.F.slot_dict_update dd1.typeIs PySem.F.entry_dict_update (PySem.F.args_dict_update_2 _ _) (meets_dict_update (mixKind X.prog X.w) a b hne d2)
          ⟨vs1, vs2, dd1, dd2, by rw [← rel1.length, ← rel2.length]; exact hlen, fun h' dd' _ hs => ?_⟩
        have hz : (mergeK us1 us2).length ≤ sizeLine := Nat.le_trans (length_mergeK us2 us1) hlen
        have he' : ∃ q, h'.get? a = some q := let ⟨q, _, _, hq, _⟩ := dd'; ⟨q, hq⟩
        exact ⟨.non, _, d_write I (by rw [h1]; exact True.intro) hs he' (dk_new hz d1 (rel2.merge rel1) dd'), rfl, p.setD M ha (KvR.merge kr2 kr) rfl⟩
      · exact p.elim
    · exact p.elim
  · exact p.elim

/-! ### o[i] = v -/
def rPut (K : KK) : V → V → V → Hp → (Hp → Prop) → Prop := fun o i v H Q => ∃ (φ : List Addr) (m : Mem) (d e f : D), MRep K φ H m ∧ Rep K φ H d o ∧ Rep K φ H e i ∧ Rep K φ H f v ∧
  match putIx d e f m with
  | .ok m' => ∀ φ' H', Ext φ H φ' H' → MRep K φ' H' m' → Q H'
  | _ => False
theorem pu_D (hu : X.A.units + 1 < cLine) : PSet X (rPut (kk X ψ)) := by
  intro pins s σ H o i v ov iv u Q I ro ri rv ⟨φ, m, d, e, f, M, r1, r2, r3, p⟩
  unfold putIx at p
  split at p
  · rename_i x h
    split at h
    · rename_i n
      split at h
      · rename_i ds he
        split at h
        · rename_i k
          split at h
          · rename_i j hj
            cases h
            obtain ⟨a, vs, rfl, ha, h1, q⟩ := ref_lst he M r1
            obtain rfl : i = .int k := r2
            exact set_list pins s σ H _ _ v ov iv u Q I ro ri rv ⟨a, vs, k, j, rfl, rfl, h1, by rw [← q.len]; exact hj, p φ _ (Ext.set M ha) (M.set ha ⟨_, upd_same, Reps.ext M (Ext.set M ha) _ _ (Reps.set r3 j q)⟩)⟩
          · cases h
        · cases h
      · rename_i kvs he
        split at h
        · rename_i k hk
          split at h
          · rename_i hl
            cases h
            obtain ⟨a, us, rfl, ha, h1, kr⟩ := ref_dct he M r1
            obtain rfl : i = kV k := keyD_rep hk r2
            cases ro
            exact d_setItem hu I (DPut.k h1 (by rw [← LIM_eq, ← kr.len]; exact hl)) ri rv fun s1 I1 => ⟨_, I1, p φ _ (Ext.set M ha) (M.set ha (RepO.dct upd_same ((KvR.put r3 kr).ext M (Ext.set M ha))))⟩
          · cases h
        · cases h
      · cases h
    · cases h
  · exact p.elim
end
end Fp

set_option maxHeartbeats 4000000
/-! Fp5: each way to put meanings together is what the machine does -/
namespace Fp
open PySem PySem.Spec PyProof.Rows L2
mutual
theorem eqDb_eq : ∀ {a b : D}, eqDb a b = true → a = b
  | .non, b, h => by cases b <;> first | rfl | cases h
  | .bl x, b, h => by
    cases b with
    | bl y => rw [eqDb] at h; rw [eq_of_beq h]
    | _ => cases h
  | .int x, b, h => by
    cases b with
    | int y => rw [eqDb] at h; rw [eq_of_beq h]
    | _ => cases h
  | .str x, b, h => by
    cases b with
    | str y => rw [eqDb] at h; rw [eq_of_beq h]
    | _ => cases h
  | .tup x, b, h => by
    cases b with
    | tup y => rw [eqDb] at h; rw [eqDs_eq h]
    | _ => cases h
  | .lst x, b, h => by
    cases b with
    | lst y => rw [eqDb] at h; rw [eqDs_eq h]
    | _ => cases h
  | .dct k x, b, h => by
    cases b with
    | dct l y =>
      rw [eqDb, Bool.and_eq_true] at h
      rw [of_decide_eq_true h.1, eqDs_eq h.2]
    | _ => cases h
  | .scr x, b, h => by
    cases b with
    | scr y => rw [eqDb] at h; rw [of_decide_eq_true h]
    | _ => cases h
  | .ref x, b, h => by
    cases b with
    | ref y => rw [eqDb] at h; rw [eq_of_beq h]
    | _ => cases h
theorem eqDs_eq : ∀ {a b : List D}, eqDs a b = true → a = b
  | [], b, h => by cases b <;> first | rfl | cases h
  | x :: xs, b, h => by
    cases b with
    | cons y ys =>
      rw [eqDs, Bool.and_eq_true] at h
      rw [eqDb_eq h.1, eqDs_eq h.2]
    | _ => cases h
end
mutual
theorem eqDb_refl : ∀ a : D, eqDb a a = true
  | .non => rfl
  | .bl x => by rw [eqDb]; exact beq_self_eq_true x
  | .int x => by rw [eqDb]; exact beq_self_eq_true x
  | .str x => by rw [eqDb]; exact beq_self_eq_true x
  | .tup x => by rw [eqDb]; exact eqDs_refl x
  | .lst x => by rw [eqDb]; exact eqDs_refl x
  | .dct k x => by rw [eqDb, eqDs_refl x, decide_eq_true rfl]; rfl
  | .scr x => by rw [eqDb]; exact decide_eq_true rfl
  | .ref x => by rw [eqDb]; exact beq_self_eq_true x
theorem eqDs_refl : ∀ a : List D, eqDs a a = true
  | [] => rfl
  | x :: xs => by rw [eqDs, eqDb_refl x, eqDs_refl xs]; rfl
end

/-! ### what follows a statement -/
def FrR (K : KK) (φ : List Addr) (H : Hp) (ρ : EnvD) (σ : L2.St) : Prop := ρ.length = σ.length ∧ ∀ (i : Nat) (d : D), ρ[i]? = some (some d) → ∃ v, σ[i]? = some (some v) ∧ Rep K φ H d v
def PoS (K : KK) (φ : List Addr) (H : Hp) (E : Ends) (r : R (Fl × Mem)) : Prop :=
  match r with
  | .ok x => ∀ (φ' : List Addr) (H' : Hp), Ext φ H φ' H' → MRep K φ' H' x.2 →
    match x.1 with
    | .nx ρ => ∀ σ, FrR K φ' H' ρ σ → E.nx σ H'
    | .brk ρ => ∀ σ, FrR K φ' H' ρ σ → E.bk σ H'
    | .cnt ρ => ∀ σ, FrR K φ' H' ρ σ → E.ct σ H'
    | .ret d => ∀ v, Rep K φ' H' d v → E.rt v H'
  | _ => False
section
variable {α β : Type} {K : KK} {Rl : List Addr → Hp → α → β → Prop} {φ φ1 : List Addr} {H H1 : Hp} {E : Ends} {m : Mem} {ρ : EnvD} {σ : L2.St}
theorem FrR.ext (M : MRep K φ H m) (x : Ext φ H φ1 H1) (f : FrR K φ H ρ σ) : FrR K φ1 H1 ρ σ := ⟨f.1, fun i d e => by
  obtain ⟨v, h, r⟩ := f.2 i d e
  exact ⟨v, h, Rep.ext M x d v r⟩⟩
theorem FrR.set {i : Nat} {d : D} {v : V} (r : Rep K φ H d v) (f : FrR K φ H ρ σ) : FrR K φ H (ρ.set i (some d)) (σ.set i (some v)) := by
  refine ⟨by rw [List.length_set, List.length_set]; exact f.1, fun j e h => ?_⟩
  by_cases hj : i = j
  · subst hj
    by_cases hl : i < ρ.length
    · rw [List.getElem?_set_self hl] at h
      cases h
      exact ⟨v, List.getElem?_set_self (by rw [← f.1]; exact hl), r⟩
    · rw [List.getElem?_eq_none (by rw [List.length_set]; omega)] at h
      cases h
  · rw [List.getElem?_set_ne hj] at h
    obtain ⟨w, hw, q⟩ := f.2 j e h
    exact ⟨w, by rw [List.getElem?_set_ne hj]; exact hw, q⟩
theorem FrR.unset {i : Nat} (f : FrR K φ H ρ σ) : FrR K φ H (ρ.set i none) (σ.set i none) := by
  refine ⟨by rw [List.length_set, List.length_set]; exact f.1, fun j e h => ?_⟩
  by_cases hj : i = j
  · subst hj
    by_cases hl : i < ρ.length
    · rw [List.getElem?_set_self hl] at h
      cases h
    · rw [List.getElem?_eq_none (by rw [List.length_set]; omega)] at h
      cases h
  · rw [List.getElem?_set_ne hj] at h
    obtain ⟨w, hw, q⟩ := f.2 j e h
    exact ⟨w, by rw [List.getElem?_set_ne hj]; exact hw, q⟩
theorem FrR.wipe (f : FrR K φ H ρ σ) : ∀ vs : List Nat, FrR K φ H (wipeD ρ vs) (wipe σ vs)
  | [] => f
  | v :: vs => by
    unfold wipeD L2.wipe
    exact FrR.unset (FrR.wipe f vs)
theorem PoS.ext {r : R (Fl × Mem)} (p : PoS K φ H E r) (x : Ext φ H φ1 H1) : PoS K φ1 H1 E r := by
  cases r with
  | ok a => exact fun φ' H' e => p φ' H' (x.trans e)
  | exc _ _ _ => exact p
  | bad => exact p
theorem PoS.ofE {r : R (α × Mem)} {f : α × Mem → R (Fl × Mem)} (p : PoS K φ H E (r.bind f)) :
    Po K Rl φ H (fun b H1 => ∃ (φ1 : List Addr) (m1 : Mem) (a : α), Ext φ H φ1 H1 ∧ MRep K φ1 H1 m1 ∧ Rl φ1 H1 a b ∧ PoS K φ1 H1 E (f (a, m1))) r := by
  cases r with
  | ok a => exact fun b φ' H' e M rl => ⟨φ', a.2, a.1, e, M, rl, PoS.ext p e⟩
  | exc _ _ _ => exact p
  | bad => exact p
theorem PoS.bind {r : R (Fl × Mem)} {f : Fl × Mem → R (Fl × Mem)} (p : PoS K φ H E (r.bind f)) :
    PoS K φ H { nx := fun σ H1 => ∃ φ1 m1 ρ, Ext φ H φ1 H1 ∧ MRep K φ1 H1 m1 ∧ FrR K φ1 H1 ρ σ ∧ PoS K φ1 H1 E (f (.nx ρ, m1)),
                bk := fun σ H1 => ∃ φ1 m1 ρ, Ext φ H φ1 H1 ∧ MRep K φ1 H1 m1 ∧ FrR K φ1 H1 ρ σ ∧ PoS K φ1 H1 E (f (.brk ρ, m1)),
                ct := fun σ H1 => ∃ φ1 m1 ρ, Ext φ H φ1 H1 ∧ MRep K φ1 H1 m1 ∧ FrR K φ1 H1 ρ σ ∧ PoS K φ1 H1 E (f (.cnt ρ, m1)),
                rt := fun v H1 => ∃ φ1 m1 d, Ext φ H φ1 H1 ∧ MRep K φ1 H1 m1 ∧ Rep K φ1 H1 d v ∧ PoS K φ1 H1 E (f (.ret d, m1)) } r := by
  cases r with
  | ok a =>
    obtain ⟨fl, m1⟩ := a
    intro φ' H' e M
    cases fl with
    | nx ρ => exact fun σ fr => ⟨φ', m1, ρ, e, M, fr, PoS.ext p e⟩
    | brk ρ => exact fun σ fr => ⟨φ', m1, ρ, e, M, fr, PoS.ext p e⟩
    | cnt ρ => exact fun σ fr => ⟨φ', m1, ρ, e, M, fr, PoS.ext p e⟩
    | ret d => exact fun v r => ⟨φ', m1, d, e, M, r, PoS.ext p e⟩
  | exc _ _ _ => exact p
  | bad => exact p
theorem PoS.mono {E' : Ends} {r : R (Fl × Mem)} (p : PoS K φ H E r) (h1 : ∀ σ H, E.nx σ H → E'.nx σ H) (h2 : ∀ σ H, E.bk σ H → E'.bk σ H) (h3 : ∀ σ H, E.ct σ H → E'.ct σ H) (h4 : ∀ v H, E.rt v H → E'.rt v H) : PoS K φ H E' r := by
  cases r with
  | ok a =>
    obtain ⟨fl, m1⟩ := a
    intro φ' H' e M
    have q := p φ' H' e M
    cases fl with
    | nx ρ => exact fun σ fr => h1 _ _ (q σ fr)
    | brk ρ => exact fun σ fr => h2 _ _ (q σ fr)
    | cnt ρ => exact fun σ fr => h3 _ _ (q σ fr)
    | ret d => exact fun v r => h4 _ _ (q v r)
  | exc _ _ _ => exact p
  | bad => exact p
end

/-- later, but for what is being made -/
structure ExtP (P : List Addr) (φ : List Addr) (H : Hp) (φ' : List Addr) (H' : Hp) : Prop where
  pre : φ <+: φ'
  keep : ∀ a o, H a = some o → a ∉ φ → a ∉ P → H' a = some o
  new : ∀ a, a ∈ φ' → a ∉ φ → H a = none
  off : ∀ a, a ∈ P → H a ≠ none → H' a ≠ none ∧ a ∉ φ'
section
variable {κ : KK} {P ψ : List Addr} {φ φ1 φ2 : List Addr} {H H1 H2 : Hp} {m : Mem} {B : Addr}
theorem Ext.toP (M : MRep κ φ H m) (x : Ext φ H φ1 H1) : ExtP κ.ps φ H φ1 H1 := by
  refine ⟨x.pre, fun a o h n _ => x.keep a o h n, x.new, fun a z _ => ?_⟩
  obtain ⟨hm, hn⟩ := M.res a z
  rcases hm with ⟨_, h⟩ | ⟨_, h⟩
  · exact ⟨by rw [x.keep a _ h hn]; simp, x.notin h hn⟩
  · exact ⟨by rw [x.keep a _ h hn]; simp, x.notin h hn⟩
theorem ExtP.later (x : ExtP P φ H φ1 H1) (y : Ext φ1 H1 φ2 H2) : ExtP P φ H φ2 H2 := by
  refine ⟨x.pre.trans y.pre, fun a o h n z => ?_, fun a h n => ?_, fun a z h => ?_⟩
  · refine y.keep a o (x.keep a o h n z) fun q => ?_
    rw [x.new a q n] at h
    cases h
  · by_cases z : a ∈ φ1
    · exact x.new a z n
    · have q := y.new a h z
      cases e : H a with
      | none => rfl
      | some o =>
        by_cases hp : a ∈ P
        · exact absurd q (x.off a hp (by rw [e]; simp)).1
        · rw [x.keep a o e n hp] at q
          cases q
  · obtain ⟨h1, n1⟩ := x.off a z h
    cases e : H1 a with
    | none => exact absurd e h1
    | some o => exact ⟨by rw [y.keep a o e n1]; simp, y.notin e n1⟩
theorem ExtP.made {o : HO} (x : ExtP P φ H φ1 H1) (hB : B ∈ P ∨ H B = none) : ExtP P φ H φ1 (upd H1 B o) := by
  refine ⟨x.pre, fun a u e n z => ?_, x.new, fun a z h => ⟨?_, (x.off a z h).2⟩⟩
  · have hne : a ≠ B := fun q => by
      subst q
      rcases hB with hB | hB
      · exact z hB
      · rw [e] at hB
        cases hB
    rw [upd_ne hne]
    exact x.keep a u e n z
  · by_cases q : a = B
    · rw [q, upd_same]
      simp
    · rw [upd_ne q]
      exact (x.off a z h).1
theorem SqT.move (M : MRep κ φ H m) (x : ExtP κ.ps φ H φ1 H1) {a : Addr} {vs : List V} (h : SqT κ.K H a vs) : SqT κ.K H1 a vs := by
  rcases h with (h | ⟨o, h⟩) | h
  · exact .inl (.inl (x.keep a _ h (M.not_tup h) fun z => (M.res a z).1.ne_tup h rfl))
  · exact .inl (.inr ⟨o, x.keep a _ h (M.not_frz h) fun z => (M.res a z).1.ne_frz h rfl⟩)
  · exact .inr h
mutual
theorem Rep.move (M : MRep κ φ H m) (x : ExtP κ.ps φ H φ1 H1) (hw : ∀ a ∈ ψ, a ∈ κ.ps ∨ H a = none) : ∀ (d : D) (v : V), Rep κ φ H d v → Rep ⟨κ.K, ψ⟩ φ1 H1 d v
  | .non, _, h => h
  | .bl _, _, h => h
  | .int _, _, h => h
  | .str _, _, h => h
  | .tup ds, v, h => by
    obtain ⟨a, vs, e, h1, h2⟩ := h
    exact ⟨a, vs, e, SqT.move M x h1, Reps.move M x hw ds vs h2⟩
  | .lst ds, v, h => by
    obtain ⟨a, vs, e, h1, n, h2⟩ := h
    refine ⟨a, vs, e, x.keep a _ h1 n.1 n.2, ⟨fun z => ?_, fun z => ?_⟩, Reps.move M x hw ds vs h2⟩
    · rw [x.new a z n.1] at h1
      cases h1
    · rcases hw a z with z | z
      · exact n.2 z
      · rw [h1] at z
        cases z
  | .dct ks ds, v, h => by
    obtain ⟨a, vs, e, h1, n, l, h2⟩ := h
    refine ⟨a, vs, e, x.keep a _ h1 n.1 n.2, ⟨fun z => ?_, fun z => ?_⟩, l, Reps.move M x hw ds vs h2⟩
    · rw [x.new a z n.1] at h1
      cases h1
    · rcases hw a z with z | z
      · exact n.2 z
      · rw [h1] at z
        cases z
  | .scr is, v, h => by
    obtain ⟨a, e, h1⟩ := h
    refine ⟨a, e, ?_⟩
    rcases h1 with ⟨o, h1⟩ | h1
    · exact .inl ⟨o, x.keep a _ h1 (M.not_frz h1) fun z => (M.res a z).1.ne_frz h1 rfl⟩
    · exact .inr h1
  | .ref n, v, h => by
    obtain ⟨a, e, h1⟩ := h
    exact ⟨a, e, pre_get x.pre h1⟩
theorem Reps.move (M : MRep κ φ H m) (x : ExtP κ.ps φ H φ1 H1) (hw : ∀ a ∈ ψ, a ∈ κ.ps ∨ H a = none) : ∀ (ds : List D) (vs : List V), Reps κ φ H ds vs → Reps ⟨κ.K, ψ⟩ φ1 H1 ds vs
  | [], _, h => h
  | d :: ds, vs, h => by
    obtain ⟨v, r, e, h1, h2⟩ := h
    exact ⟨v, r, e, Rep.move M x hw d v h1, Reps.move M x hw ds r h2⟩
end
end

/-! ### the readings -/
section
variable (K : KK) (c : Cxt)
/-- a state, and what is wanted of a meaning there -/
def St0 (σ : L2.St) (H : Hp) (P : List Addr → EnvD → Mem → Prop) : Prop := ∃ (φ : List Addr) (ρ : EnvD) (m : Mem), FrR K φ H ρ σ ∧ MRep K φ H m ∧ P φ ρ m
def tE (F : SE) : TE := fun σ H Q => St0 K σ H fun φ ρ m => Po K (Rep K) φ H Q (F c ρ m)
def tA (F : SA) : TA := fun σ H Q => St0 K σ H fun φ ρ m => Po K (Reps K) φ H Q (F c ρ m)
def tT (F : ST) : TT := fun σ H Q => St0 K σ H fun φ ρ m => Po K (fun _ _ a b => a = b) φ H Q (F c ρ m)
def tO (F : SO) : TO := fun σ H Q => St0 K σ H fun φ ρ m => Po K (fun _ _ a b => a = b) φ H Q (F c ρ m)
def tS (F : SS) : TS := fun E σ H => St0 K σ H fun φ ρ m => PoS K φ H E (F c ρ m)
/-- the turns of a walk are these items -/
def Walks (J : It) (items : List D) (src : Option Nat) (φ : List Addr) (H : Hp) : Prop := ∀ (ψ φ1 : List Addr) (H1 : Hp) (m1 : Mem), (∀ a ∈ ψ, a ∈ K.ps ∨ H a = none) → ExtP K.ps φ H φ1 H1 → MRep ⟨K.K, ψ⟩ φ1 H1 m1 → standsB src items m1 = true → ∀ i : Nat,
  (∀ d, items[i]? = some d → J.go i H1 ∧ ∀ x H2, J.yld i H1 x H2 → Ext φ1 H1 φ1 H2 ∧ MRep ⟨K.K, ψ⟩ φ1 H2 m1 ∧ Rep ⟨K.K, ψ⟩ φ1 H2 d x) ∧ (items[i]? = none → J.stop i H1)
def tI (F : SI) : TI := fun σ H Q => St0 K σ H fun φ ρ m => Po K (fun φ' H' a J => Walks K J a.1 a.2 φ' H') φ H Q (F c ρ m)
end
theorem PE.imp {X : Cx} {e : Expr} {t t' : TE} (h : PE X e t) (i : ∀ σ H Q, t' σ H Q → t σ H Q) : PE X e t' := ⟨fun pins s σ H Q I q => h.run pins s σ H Q I (i _ _ _ q)⟩
theorem PT.imp {X : Cx} {e : Expr} {t t' : TT} (h : PT X e t) (i : ∀ σ H Q, t' σ H Q → t σ H Q) : PT X e t' := ⟨fun pins s σ H Q I q => h.run pins s σ H Q I (i _ _ _ q)⟩
theorem PW.imp {X : Cx} {e : Expr} {t t' : TT} (h : PW X e t) (i : ∀ σ H Q, t' σ H Q → t σ H Q) : PW X e t' := ⟨fun wh pins s σ H Q I q => h.run wh pins s σ H Q I (i _ _ _ q)⟩
theorem PA.imp {X : Cx} {e : List Expr} {t t' : TA} (h : PA X e t) (i : ∀ σ H Q, t' σ H Q → t σ H Q) : PA X e t' := ⟨fun p pins s σ H Q I q => h.run p pins s σ H Q I (i _ _ _ q)⟩
theorem PO.imp {X : Cx} {e : Option Expr} {t t' : TO} (h : PO X e t) (i : ∀ σ H Q, t' σ H Q → t σ H Q) : PO X e t' := ⟨fun pins s σ H Q I q => h.run pins s σ H Q I (i _ _ _ q)⟩
theorem PI.imp {X : Cx} {g e : Expr} {t t' : TI} (h : PI X g e t) (i : ∀ σ H Q, t' σ H Q → t σ H Q) : PI X g e t' := ⟨fun pins s σ H Q I q => h.run pins s σ H Q I (i _ _ _ q)⟩
theorem PS.imp {X : Cx} {e : Stmt} {t t' : TS} (h : PS X e t) (i : ∀ E σ H, t' E σ H → t E σ H) : PS X e t' := ⟨fun pins s σ H E I q => h.run pins s σ H E I (i _ _ _ q)⟩
theorem PSs.imp {X : Cx} {e : List Stmt} {t t' : TS} (h : PSs X e t) (i : ∀ E σ H, t' E σ H → t E σ H) : PSs X e t' := ⟨fun pins s σ H E I q => h.run pins s σ H E I (i _ _ _ q)⟩

section
variable {K : KK} {c : Cxt} {σ : L2.St} {H : Hp}
theorem bad_E {Q : VK} {P : Prop} (h : tE K c sBad σ H Q) : P := by
  obtain ⟨φ, ρ, m, _, _, p⟩ := h
  exact p.elim
theorem t_var {i : Nat} {Q : VK} (h : tE K c (sVar i) σ H Q) : tVar i σ H Q := by
  obtain ⟨φ, ρ, m, fr, M, p⟩ := h
  unfold sVar at p
  split at p
  · rename_i d hd
    obtain ⟨v, e, r⟩ := fr.2 i d hd
    exact ⟨v, e, PoE.same p M r⟩
  · exact p.elim
theorem t_k {d : D} {v : V} {Q : VK} (hr : ∀ φ H, Rep K φ H d v) (h : tE K c (sK d) σ H Q) : tC v σ H Q := by
  obtain ⟨φ, ρ, m, fr, M, p⟩ := h
  exact PoE.same p M (hr _ _)
theorem t_op {f : D → D → Mem → RD} {A B : SE} {Q : VK} (h : tE K c (sOp f A B) σ H Q) : tOp (rD K f) (tE K c A) (tE K c B) σ H Q := by
  obtain ⟨φ, ρ, m, fr, M, p⟩ := h
  refine ⟨φ, ρ, m, fr, M, (Po.bind (Rl := Rep K) p).mono fun x H1 ⟨φ1, m1, d1, e1, M1, r1, p1⟩ => ?_⟩
  refine ⟨φ1, ρ, m1, fr.ext M e1, M1, (Po.bind (Rl := Rep K) p1).mono fun y H2 ⟨φ2, m2, d2, e2, M2, r2, p2⟩ => ?_⟩
  exact ⟨φ2, m2, d1, d2, M2, Rep.ext M1 e2 _ _ r1, r2, p2⟩
theorem t_cmp {f : D → D → Mem → Option Bool} {A B : SE} {Q : Bool → Hp → Prop} (h : tT K c (stCmp f A B) σ H Q) : tTest (tOp (rD K (opC f)) (tE K c A) (tE K c B)) σ H Q := by
  obtain ⟨φ, ρ, m, fr, M, p⟩ := h
  refine ⟨φ, ρ, m, fr, M, (Po.bind (Rl := Rep K) p).mono fun x H1 ⟨φ1, m1, d1, e1, M1, r1, p1⟩ => ?_⟩
  refine ⟨φ1, ρ, m1, fr.ext M e1, M1, (Po.bind (Rl := Rep K) p1).mono fun y H2 ⟨φ2, m2, d2, e2, M2, r2, p2⟩ => ?_⟩
  refine ⟨φ2, m2, d1, d2, M2, Rep.ext M1 e2 _ _ r1, r2, ?_⟩
  unfold opC
  split at p2
  · rename_i k hk
    have hk' : f d1 d2 m2 = some k := hk
    rw [hk']
    intro v φ' H' e M' r
    exact ⟨k, r, p2 k φ' H' e M' rfl⟩
  · exact p2.elim
def tUnD (K : KK) (f : D → Mem → RD) : V → Hp → VK → Prop := fun x H Q => ∃ (φ : List Addr) (m : Mem) (dx : D), MRep K φ H m ∧ Rep K φ H dx x ∧ PoE K φ H Q (f dx m)
theorem t_un {f : D → Mem → RD} {A : SE} {Q : VK} (h : tE K c (sUn f A) σ H Q) : tUn (tUnD K f) (tE K c A) σ H Q := by
  obtain ⟨φ, ρ, m, fr, M, p⟩ := h
  refine ⟨φ, ρ, m, fr, M, (Po.bind (Rl := Rep K) p).mono fun x H1 ⟨φ1, m1, d1, e1, M1, r1, p1⟩ => ?_⟩
  exact ⟨φ1, m1, d1, M1, r1, p1⟩
theorem tru_rep {φ : List Addr} {m : Mem} {d : D} {v : V} {b : Bool} (M : MRep K φ H m) (r : Rep K φ H d v) (h : truD d m = some b) : TruV K.K v H b := by
  cases d with
  | non =>
    cases h
    obtain rfl : v = .non := r
    exact rfl
  | bl k =>
    have e : k = b := Option.some.inj h
    subst e
    obtain rfl : v = .bl k := r
    exact rfl
  | int i =>
    cases h
    obtain rfl : v = .int i := r
    exact rfl
  | str x =>
    unfold truD at h
    simp only at h
    split at h
    · rename_i hl
      cases h
      obtain rfl : v = .str x := r
      exact ⟨by rw [← LIM_eq]; exact hl, rfl⟩
    · cases h
  | tup ds =>
    cases h
    obtain ⟨a, vs, rfl, h1, q⟩ := r
    have hl := q.len
    refine .inr (.inl ⟨vs, h1, ?_⟩)
    cases ds with
    | nil =>
      obtain rfl := q.zero
      rfl
    | cons d ds =>
      obtain ⟨w, r', rfl, _⟩ := q
      rfl
  | lst ds =>
    cases h
    obtain ⟨a, vs, rfl, h1, _, q⟩ := r
    refine .inl ⟨vs, SqL.of h1, ?_⟩
    cases ds with
    | nil =>
      obtain rfl := q.zero
      rfl
    | cons d ds =>
      obtain ⟨w, r', rfl, _⟩ := q
      rfl
  | dct ks ds =>
    obtain ⟨a, us, rfl, h1, kr⟩ := dictD_rep (d := .dct ks ds) rfl M r
    cases h
    refine .inr (.inr ⟨us, h1, ?_⟩)
    have hl := kr.len
    cases us with
    | nil =>
      rw [List.length_nil] at hl
      rw [List.eq_nil_of_length_eq_zero hl]
      rfl
    | cons u us =>
      cases hz : ks.zip ds with
      | nil => rw [hz] at hl; cases hl
      | cons _ _ => rfl
  | scr is =>
    cases h
    obtain ⟨a, rfl, h1⟩ := r
    refine .inl ⟨is.map V.int, ?_, ?_⟩
    · rcases h1 with ⟨o, h1⟩ | h1
      · exact .inl (.inr ⟨o, h1⟩)
      · exact .inr h1
    · cases is <;> rfl
  | ref n =>
    unfold truD at h
    simp only at h
    split at h
    · rename_i ds he
      cases h
      obtain ⟨a, vs, rfl, _, h1, q⟩ := ref_lst he M r
      refine .inl ⟨vs, SqL.of h1, ?_⟩
      cases ds with
      | nil =>
        obtain rfl := q.zero
        rfl
      | cons d ds =>
        obtain ⟨w, r', rfl, _⟩ := q
        rfl
    · rename_i kvs he
      cases h
      obtain ⟨a, us, rfl, _, h1, kr⟩ := ref_dct he M r
      refine .inr (.inr ⟨us, h1, ?_⟩)
      cases kvs with
      | nil =>
        rw [kr.nil_iff]
        rfl
      | cons p kvs =>
        obtain ⟨k, d⟩ := p
        obtain ⟨w, us', rfl, _⟩ := kr.cons_iff
        rfl
    · cases h
theorem t_tru {A : SE} {Q : Bool → Hp → Prop} (h : tT K c (stTru A) σ H Q) : (tE K c A) σ H fun x H' => ∃ k, TruV K.K x H' k ∧ Q k H' := by
  obtain ⟨φ, ρ, m, fr, M, p⟩ := h
  refine ⟨φ, ρ, m, fr, M, (Po.bind (Rl := Rep K) p).mono fun x H1 ⟨φ1, m1, d1, e1, M1, r1, p1⟩ => ?_⟩
  split at p1
  · rename_i b hb
    exact ⟨b, tru_rep M1 r1 hb, p1 b φ1 H1 Ext.refl M1 rfl⟩
  · exact p1.elim
theorem t_not {A : SE} {Q : VK} (h : tE K c (sUn opNot A) σ H Q) : tNotT K.K (tE K c A) σ H Q := by
  obtain ⟨φ, ρ, m, fr, M, p⟩ := h
  refine ⟨φ, ρ, m, fr, M, (Po.bind (Rl := Rep K) p).mono fun x H1 ⟨φ1, m1, d1, e1, M1, r1, p1⟩ => ?_⟩
  unfold opNot at p1
  split at p1
  · rename_i b hb
    exact ⟨b, tru_rep M1 r1 hb, PoE.same p1 M1 rfl⟩
  · exact p1.elim
theorem t_andE {A B : SE} {Q : VK} (h : tE K c (sAndE A B) σ H Q) : tAndT K.K (tE K c A) (tE K c B) σ H Q := by
  obtain ⟨φ, ρ, m, fr, M, p⟩ := h
  refine ⟨φ, ρ, m, fr, M, (Po.bind (Rl := Rep K) p).mono fun x H1 ⟨φ1, m1, d1, e1, M1, r1, p1⟩ => ?_⟩
  split at p1
  · rename_i hb
    exact ⟨true, tru_rep M1 r1 hb, by rw [if_pos rfl]; exact ⟨φ1, ρ, m1, fr.ext M e1, M1, p1⟩⟩
  · rename_i hb
    exact ⟨false, tru_rep M1 r1 hb, by rw [if_neg Bool.false_ne_true]; exact p1 x φ1 H1 Ext.refl M1 r1⟩
  · exact p1.elim
theorem t_orE {A B : SE} {Q : VK} (h : tE K c (sOrE A B) σ H Q) : tOrT K.K (tE K c A) (tE K c B) σ H Q := by
  obtain ⟨φ, ρ, m, fr, M, p⟩ := h
  refine ⟨φ, ρ, m, fr, M, (Po.bind (Rl := Rep K) p).mono fun x H1 ⟨φ1, m1, d1, e1, M1, r1, p1⟩ => ?_⟩
  split at p1
  · rename_i hb
    exact ⟨true, tru_rep M1 r1 hb, by rw [if_pos rfl]; exact p1 x φ1 H1 Ext.refl M1 r1⟩
  · rename_i hb
    exact ⟨false, tru_rep M1 r1 hb, by rw [if_neg Bool.false_ne_true]; exact ⟨φ1, ρ, m1, fr.ext M e1, M1, p1⟩⟩
  · exact p1.elim
theorem t_and {A B : ST} {Q : Bool → Hp → Prop} (h : tT K c (stAnd A B) σ H Q) : tAnd (tT K c A) (tT K c B) σ H Q := by
  obtain ⟨φ, ρ, m, fr, M, p⟩ := h
  refine ⟨φ, ρ, m, fr, M, (Po.bind (Rl := fun _ _ a b => a = b) p).mono fun x H1 ⟨φ1, m1, d1, e1, M1, r1, p1⟩ => ?_⟩
  subst r1
  cases d1 with
  | true => rw [if_pos rfl]; exact ⟨φ1, ρ, m1, fr.ext M e1, M1, p1⟩
  | false => rw [if_neg Bool.false_ne_true]; exact p1 false φ1 H1 Ext.refl M1 rfl
theorem t_or {A B : ST} {Q : Bool → Hp → Prop} (h : tT K c (stOr A B) σ H Q) : tOr (tT K c A) (tT K c B) σ H Q := by
  obtain ⟨φ, ρ, m, fr, M, p⟩ := h
  refine ⟨φ, ρ, m, fr, M, (Po.bind (Rl := fun _ _ a b => a = b) p).mono fun x H1 ⟨φ1, m1, d1, e1, M1, r1, p1⟩ => ?_⟩
  subst r1
  cases d1 with
  | true => rw [if_pos rfl]; exact p1 true φ1 H1 Ext.refl M1 rfl
  | false => rw [if_neg Bool.false_ne_true]; exact ⟨φ1, ρ, m1, fr.ext M e1, M1, p1⟩
theorem t_notT {A : ST} {Q : Bool → Hp → Prop} (h : tT K c (stNot A) σ H Q) : tNot (tT K c A) σ H Q := by
  obtain ⟨φ, ρ, m, fr, M, p⟩ := h
  refine ⟨φ, ρ, m, fr, M, (Po.bind (Rl := fun _ _ a b => a = b) p).mono fun x H1 ⟨φ1, m1, d1, e1, M1, r1, p1⟩ => ?_⟩
  subst r1
  exact p1 (!d1) φ1 H1 Ext.refl M1 rfl
theorem t_ifE {T : ST} {A B : SE} {Q : VK} (h : tE K c (sIfE T A B) σ H Q) : tIf (tT K c T) (tE K c A) (tE K c B) σ H Q := by
  obtain ⟨φ, ρ, m, fr, M, p⟩ := h
  refine ⟨φ, ρ, m, fr, M, (Po.bind (Rl := fun _ _ a b => a = b) p).mono fun x H1 ⟨φ1, m1, d1, e1, M1, r1, p1⟩ => ?_⟩
  subst r1
  cases d1 with
  | true => rw [if_pos rfl]; exact ⟨φ1, ρ, m1, fr.ext M e1, M1, p1⟩
  | false => rw [if_neg Bool.false_ne_true]; exact ⟨φ1, ρ, m1, fr.ext M e1, M1, p1⟩
theorem t_nil {Q : List V → Hp → Prop} (h : tA K c sNil σ H Q) : tNil σ H Q := by
  obtain ⟨φ, ρ, m, fr, M, p⟩ := h
  exact p [] φ H Ext.refl M rfl
theorem t_cons {A : SE} {B : SA} {Q : List V → Hp → Prop} (h : tA K c (sCons A B) σ H Q) : tCons (tE K c A) (tA K c B) σ H Q := by
  obtain ⟨φ, ρ, m, fr, M, p⟩ := h
  refine ⟨φ, ρ, m, fr, M, (Po.bind (Rl := Rep K) p).mono fun x H1 ⟨φ1, m1, d1, e1, M1, r1, p1⟩ => ?_⟩
  refine ⟨φ1, ρ, m1, fr.ext M e1, M1, (Po.bind (Rl := Reps K) p1).mono fun y H2 ⟨φ2, m2, d2, e2, M2, r2, p2⟩ => ?_⟩
  exact p2 (x :: y) φ2 H2 Ext.refl M2 (Reps.cons (Rep.ext M1 e2 _ _ r1) r2)
theorem t_tup {A : SA} {Q : VK} (h : tE K c (sApp sTup A) σ H Q) : tTup (tA K c A) σ H Q := by
  obtain ⟨φ, ρ, m, fr, M, p⟩ := h
  refine ⟨φ, ρ, m, fr, M, (Po.bind (Rl := Reps K) p).mono fun x H1 ⟨φ1, m1, d1, e1, M1, r1, p1⟩ => ?_⟩
  unfold sTup at p1
  split at p1
  · rename_i hl
    exact ⟨by rw [← LIM_eq, ← r1.len]; exact hl, PoE.tup p1 M1 r1⟩
  · exact p1.elim
theorem t_lst {al : Bool} {A : SA} {Q : VK} (h : tE K c (sApp (mkL al) A) σ H Q) : tLst (tA K c A) σ H Q := by
  obtain ⟨φ, ρ, m, fr, M, p⟩ := h
  refine ⟨φ, ρ, m, fr, M, (Po.bind (Rl := Reps K) p).mono fun x H1 ⟨φ1, m1, d1, e1, M1, r1, p1⟩ => ?_⟩
  exact mkL_new p1 M1 r1
theorem t_bi {f : List D → Mem → RD} {A : SA} {Q : VK} (h : tE K c (sApp f A) σ H Q) : tCB (rB K f) (tA K c A) σ H Q := by
  obtain ⟨φ, ρ, m, fr, M, p⟩ := h
  refine ⟨φ, ρ, m, fr, M, (Po.bind (Rl := Reps K) p).mono fun x H1 ⟨φ1, m1, d1, e1, M1, r1, p1⟩ => ?_⟩
  exact ⟨φ1, m1, d1, M1, r1, p1⟩
theorem t_no {Q : Option Int → Hp → Prop} (h : tO K c soNo σ H Q) : tNoPart σ H Q := by
  obtain ⟨φ, ρ, m, fr, M, p⟩ := h
  exact p none φ H Ext.refl M rfl
theorem t_some {A : SE} {Q : Option Int → Hp → Prop} (h : tO K c (soSome A) σ H Q) : tPart (tE K c A) σ H Q := by
  obtain ⟨φ, ρ, m, fr, M, p⟩ := h
  refine ⟨φ, ρ, m, fr, M, (Po.bind (Rl := Rep K) p).mono fun x H1 ⟨φ1, m1, d1, e1, M1, r1, p1⟩ => ?_⟩
  split at p1
  · rename_i i hi
    have hi' : d1 = .int i := hi
    subst hi'
    exact ⟨i, r1, p1 (some i) φ1 H1 Ext.refl M1 rfl⟩
  · exact p1.elim
theorem t_sl {A : SE} {L U : SO} {Q : VK} (h : tE K c (sSl A L U) σ H Q) : tSl (rSlD K) (tE K c A) (tO K c L) (tO K c U) σ H Q := by
  obtain ⟨φ, ρ, m, fr, M, p⟩ := h
  refine ⟨φ, ρ, m, fr, M, (Po.bind (Rl := Rep K) p).mono fun x H1 ⟨φ1, m1, d1, e1, M1, r1, p1⟩ => ?_⟩
  refine ⟨φ1, ρ, m1, fr.ext M e1, M1, (Po.bind (Rl := fun _ _ a b => a = b) p1).mono fun y H2 ⟨φ2, m2, d2, e2, M2, r2, p2⟩ => ?_⟩
  refine ⟨φ2, ρ, m2, (fr.ext M e1).ext M1 e2, M2, (Po.bind (Rl := fun _ _ a b => a = b) p2).mono fun z H3 ⟨φ3, m3, d3, e3, M3, r3, p3⟩ => ?_⟩
  subst r2 r3
  exact ⟨φ3, m3, d1, M3, Rep.ext M2 e3 _ _ (Rep.ext M1 e2 _ _ r1), p3⟩
theorem t_rev {A : SE} {Q : VK} (h : tE K c (sUn opRev A) σ H Q) : tRevL K.K (tE K c A) σ H Q := by
  obtain ⟨φ, ρ, m, fr, M, p⟩ := h
  refine ⟨φ, ρ, m, fr, M, (Po.bind (Rl := Rep K) p).mono fun x H1 ⟨φ1, m1, d1, e1, M1, r1, p1⟩ => ?_⟩
  unfold opRev at p1
  split at p1
  · rename_i ds hd
    split at p1
    · exact p1.elim
    · rename_i hn
      rcases itemsD_tup hd M1 r1 with ⟨a, vs, e, _⟩ | ⟨a, vs, rfl, hq, q⟩
      · exact absurd e (hn _)
      · exact ⟨a, vs, rfl, hq, PoE.lst p1 M1 q.reverse⟩
  · exact p1.elim
/-- a built-in's method: T the receiver's type -/
theorem t_meth {T : String} {g : D → Mem → Bool} {f : D → List D → Mem → RD} {A : SE} {B : SA} {Q : VK} (hg : ∀ {φ : List Addr} {H : Hp} {m : Mem} {d : D} {v : V}, g d m = true → MRep K φ H m → Rep K φ H d v → tyV K.K T v H)
    (h : tE K c (sMeth g f A B) σ H Q) : tBM K.K T (rM K f) (tE K c A) (tA K c B) σ H Q := by
  obtain ⟨φ, ρ, m, fr, M, p⟩ := h
  refine ⟨φ, ρ, m, fr, M, (Po.bind (Rl := Rep K) p).mono fun x H1 ⟨φ1, m1, d1, e1, M1, r1, p1⟩ => ?_⟩
  split at p1
  · rename_i hgd
    refine ⟨hg hgd M1 r1, φ1, ρ, m1, fr.ext M e1, M1, (Po.bind (Rl := Reps K) p1).mono fun y H2 ⟨φ2, m2, d2, e2, M2, r2, p2⟩ => ?_⟩
    exact ⟨φ2, m2, d1, d2, M2, Rep.ext M1 e2 _ _ r1, r2, p2⟩
  · exact p1.elim
theorem t_meth0 {T : String} {g : D → Mem → Bool} {f : D → List D → Mem → RD} {A : SE} {Q : VK} (hg : ∀ {φ : List Addr} {H : Hp} {m : Mem} {d : D} {v : V}, g d m = true → MRep K φ H m → Rep K φ H d v → tyV K.K T v H)
    (h : tE K c (sMeth g f A sNil) σ H Q) : tBM0 K.K T (rM K f) (tE K c A) σ H Q := by
  obtain ⟨φ, ρ, m, fr, M, p⟩ := h
  refine ⟨φ, ρ, m, fr, M, (Po.bind (Rl := Rep K) p).mono fun x H1 ⟨φ1, m1, d1, e1, M1, r1, p1⟩ => ?_⟩
  split at p1
  · rename_i hgd
    exact ⟨hg hgd M1 r1, φ1, m1, d1, [], M1, r1, rfl, p1⟩
  · exact p1.elim
theorem isL_ty {φ : List Addr} {m : Mem} {d : D} {v : V} (h : isL d m = true) (M : MRep K φ H m) (r : Rep K φ H d v) : tyV K.K "list" v H := by
  obtain ⟨ds, hd⟩ := Option.isSome_iff_exists.mp h
  obtain ⟨a, vs, rfl, h1, _⟩ := listD_rep hd M r
  exact .inl ⟨rfl, vs, SqL.of h1⟩
theorem isDd_ty {φ : List Addr} {m : Mem} {d : D} {v : V} (h : isDd d m = true) (M : MRep K φ H m) (r : Rep K φ H d v) : tyV K.K "dict" v H := by
  obtain ⟨ds, hd⟩ := Option.isSome_iff_exists.mp h
  obtain ⟨a, vs, rfl, h1, _⟩ := dictD_rep hd M r
  exact .inr (.inr (.inl ⟨rfl, .inl ⟨vs, h1⟩⟩))
end
end Fp

set_option maxHeartbeats 4000000
/-! Fp6: what is being made; targets; walks; statements; what leaves a def -/
namespace Fp
open PySem PySem.Spec PyProof.Rows L2

/-! ### addresses that are spoken for -/
section
variable {K : PySem.W.Frag} {ps : List Addr} {B : Addr} {φ φ2 : List Addr} {H : Hp} {m : Mem}
/-! the thing that is being made changes -/
mutual
theorem Rep.grown {κ : KK} {o : HO} (hB : B ∈ κ.ps) (hm : Making H B) (M : MRep κ φ H m) : ∀ (d : D) (v : V), Rep κ φ H d v → Rep κ φ (upd H B o) d v
  | .non, _, h => h
  | .bl _, _, h => h
  | .int _, _, h => h
  | .str _, _, h => h
  | .tup ds, v, h => by
    obtain ⟨a, vs, e, h1, h2⟩ := h
    refine ⟨a, vs, e, ?_, Reps.grown hB hm M ds vs h2⟩
    rcases h1 with (h1 | ⟨u, h1⟩) | h1
    · exact .inl (.inl (by rw [upd_ne (hm.ne_tup h1)]; exact h1))
    · exact .inl (.inr ⟨u, by rw [upd_ne (hm.ne_frz h1)]; exact h1⟩)
    · exact .inr h1
  | .lst ds, v, h => by
    obtain ⟨a, vs, e, h1, n, h2⟩ := h
    exact ⟨a, vs, e, by rw [upd_ne fun z => n.2 (by rw [z]; exact hB)]; exact h1, n, Reps.grown hB hm M ds vs h2⟩
  | .dct ks ds, v, h => by
    obtain ⟨a, vs, e, h1, n, l, h2⟩ := h
    exact ⟨a, vs, e, by rw [upd_ne fun z => n.2 (by rw [z]; exact hB)]; exact h1, n, l, Reps.grown hB hm M ds vs h2⟩
  | .scr is, v, h => by
    obtain ⟨a, e, h1⟩ := h
    refine ⟨a, e, ?_⟩
    rcases h1 with ⟨u, h1⟩ | h1
    · exact .inl ⟨u, by rw [upd_ne (hm.ne_frz h1)]; exact h1⟩
    · exact .inr h1
  | .ref n, v, h => h
theorem Reps.grown {κ : KK} {o : HO} (hB : B ∈ κ.ps) (hm : Making H B) (M : MRep κ φ H m) : ∀ (ds : List D) (vs : List V), Reps κ φ H ds vs → Reps κ φ (upd H B o) ds vs
  | [], _, h => h
  | d :: ds, vs, h => by
    obtain ⟨v, r, e, h1, h2⟩ := h
    exact ⟨v, r, e, Rep.grown hB hm M d v h1, Reps.grown hB hm M ds r h2⟩
end
theorem RepO.grown {κ : KK} {o : HO} (hB : B ∈ κ.ps) (hm : Making H B) (M : MRep κ φ H m) {a : Addr} {ob : Ob} (ha : a ∈ φ) (h : RepO κ φ H a ob) : RepO κ φ (upd H B o) a ob := by
  have hne : a ≠ B := fun z => (M.res B hB).2 (by rw [← z]; exact ha)
  cases ob with
  | lst ds =>
    obtain ⟨vs, h1, h2⟩ := h
    exact ⟨vs, by rw [upd_ne hne]; exact h1, Reps.grown hB hm M ds vs h2⟩
  | dct kvs =>
    obtain ⟨vs, h1, h2⟩ := h
    exact ⟨vs, by rw [upd_ne hne]; exact h1, Reps.grown hB hm M _ vs h2⟩
theorem MRep.grown {κ : KK} {o : HO} (hB : B ∈ κ.ps) (hm : Making H B) (ho : Making (upd H B o) B) (M : MRep κ φ H m) : MRep κ φ (upd H B o) m := by
  refine ⟨M.nd, M.len, fun n ob e => ?_, fun a z => ⟨?_, (M.res a z).2⟩⟩
  · obtain ⟨a, ha, r⟩ := M.ob n ob e
    exact ⟨a, ha, r.grown hB hm M (List.mem_of_getElem? ha)⟩
  · by_cases e : a = B
    · rw [e]
      exact ho
    · exact (M.res a z).1.eq (upd_ne e)
/-! one address less is spoken for -/
mutual
theorem Rep.less : ∀ (d : D) (v : V), Rep ⟨K, B :: ps⟩ φ H d v → Rep ⟨K, ps⟩ φ H d v
  | .non, _, h => h
  | .bl _, _, h => h
  | .int _, _, h => h
  | .str _, _, h => h
  | .tup ds, v, h => by
    obtain ⟨a, vs, e, h1, h2⟩ := h
    exact ⟨a, vs, e, h1, Reps.less ds vs h2⟩
  | .lst ds, v, h => by
    obtain ⟨a, vs, e, h1, n, h2⟩ := h
    exact ⟨a, vs, e, h1, ⟨n.1, fun z => n.2 (List.mem_cons_of_mem _ z)⟩, Reps.less ds vs h2⟩
  | .dct ks ds, v, h => by
    obtain ⟨a, vs, e, h1, n, l, h2⟩ := h
    exact ⟨a, vs, e, h1, ⟨n.1, fun z => n.2 (List.mem_cons_of_mem _ z)⟩, l, Reps.less ds vs h2⟩
  | .scr is, v, h => h
  | .ref n, v, h => h
theorem Reps.less : ∀ (ds : List D) (vs : List V), Reps ⟨K, B :: ps⟩ φ H ds vs → Reps ⟨K, ps⟩ φ H ds vs
  | [], _, h => h
  | d :: ds, vs, h => by
    obtain ⟨v, r, e, h1, h2⟩ := h
    exact ⟨v, r, e, Rep.less d v h1, Reps.less ds r h2⟩
end
theorem MRep.less (M : MRep ⟨K, B :: ps⟩ φ H m) : MRep ⟨K, ps⟩ φ H m := by
  refine ⟨M.nd, M.len, fun n ob e => ?_, fun a z => M.res a (List.mem_cons_of_mem _ z)⟩
  obtain ⟨a, ha, r⟩ := M.ob n ob e
  refine ⟨a, ha, ?_⟩
  cases ob with
  | lst ds =>
    obtain ⟨vs, h1, h2⟩ := r
    exact ⟨vs, h1, Reps.less ds vs h2⟩
  | dct kvs =>
    obtain ⟨vs, h1, h2⟩ := r
    exact ⟨vs, h1, Reps.less _ vs h2⟩
/-! what was made becomes an object of the memory -/
mutual
theorem Rep.known : ∀ (d : D) (v : V), Rep ⟨K, B :: ps⟩ φ H d v → Rep ⟨K, ps⟩ (φ ++ [B]) H d v
  | .non, _, h => h
  | .bl _, _, h => h
  | .int _, _, h => h
  | .str _, _, h => h
  | .tup ds, v, h => by
    obtain ⟨a, vs, e, h1, h2⟩ := h
    exact ⟨a, vs, e, h1, Reps.known ds vs h2⟩
  | .lst ds, v, h => by
    obtain ⟨a, vs, e, h1, n, h2⟩ := h
    refine ⟨a, vs, e, h1, ⟨fun z => ?_, fun z => n.2 (List.mem_cons_of_mem _ z)⟩, Reps.known ds vs h2⟩
    rcases List.mem_append.mp z with z | z
    · exact n.1 z
    · exact n.2 (by rw [List.mem_singleton.mp z]; exact List.mem_cons_self)
  | .dct ks ds, v, h => by
    obtain ⟨a, vs, e, h1, n, l, h2⟩ := h
    refine ⟨a, vs, e, h1, ⟨fun z => ?_, fun z => n.2 (List.mem_cons_of_mem _ z)⟩, l, Reps.known ds vs h2⟩
    rcases List.mem_append.mp z with z | z
    · exact n.1 z
    · exact n.2 (by rw [List.mem_singleton.mp z]; exact List.mem_cons_self)
  | .scr is, v, h => h
  | .ref n, v, h => by
    obtain ⟨a, e, h1⟩ := h
    exact ⟨a, e, pre_get (pre_snoc φ B) h1⟩
theorem Reps.known : ∀ (ds : List D) (vs : List V), Reps ⟨K, B :: ps⟩ φ H ds vs → Reps ⟨K, ps⟩ (φ ++ [B]) H ds vs
  | [], _, h => h
  | d :: ds, vs, h => by
    obtain ⟨v, r, e, h1, h2⟩ := h
    exact ⟨v, r, e, Rep.known d v h1, Reps.known ds r h2⟩
end
theorem RepO.known {a : Addr} {ob : Ob} (h : RepO ⟨K, B :: ps⟩ φ H a ob) : RepO ⟨K, ps⟩ (φ ++ [B]) H a ob := by
  cases ob with
  | lst ds =>
    obtain ⟨vs, h1, h2⟩ := h
    exact ⟨vs, h1, Reps.known ds vs h2⟩
  | dct kvs =>
    obtain ⟨vs, h1, h2⟩ := h
    exact ⟨vs, h1, Reps.known _ vs h2⟩
theorem MRep.known {ob : Ob} (M : MRep ⟨K, B :: ps⟩ φ H m) (hps : B ∉ ps) (r : RepO ⟨K, B :: ps⟩ φ H B ob) : MRep ⟨K, ps⟩ (φ ++ [B]) H (m ++ [ob]) := by
  have hB := M.res B List.mem_cons_self
  refine ⟨?_, by rw [List.length_append, List.length_append, M.len]; rfl, fun n ob' e => ?_, fun a z => ⟨(M.res a (List.mem_cons_of_mem _ z)).1, fun q => ?_⟩⟩
  · rw [List.nodup_append]
    refine ⟨M.nd, by simp, fun a ha b hb => ?_⟩
    rw [List.mem_singleton.mp hb]
    exact fun z => hB.2 (z ▸ ha)
  · by_cases hn : n < m.length
    · rw [List.getElem?_append_left hn] at e
      obtain ⟨a, ha, q⟩ := M.ob n ob' e
      exact ⟨a, pre_get (pre_snoc φ B) ha, q.known⟩
    · have hl : n < (m ++ [ob]).length := (List.getElem?_eq_some_iff.mp e).1
      rw [List.length_append, List.length_singleton] at hl
      have en : n = m.length := by omega
      subst en
      rw [List.getElem?_append_right (Nat.le_refl _), Nat.sub_self] at e
      cases e
      refine ⟨B, ?_, r.known⟩
      rw [← M.len, List.getElem?_append_right (Nat.le_refl _), Nat.sub_self]
      rfl
  · rcases List.mem_append.mp q with q | q
    · exact (M.res a (List.mem_cons_of_mem _ z)).2 q
    · exact hps (by rw [← List.mem_singleton.mp q]; exact z)
/-! something is begun at a new address -/
mutual
theorem Rep.begun {o : HO} (hn : H B = none) : ∀ (d : D) (v : V), Rep ⟨K, ps⟩ φ H d v → Rep ⟨K, B :: ps⟩ φ (upd H B o) d v
  | .non, _, h => h
  | .bl _, _, h => h
  | .int _, _, h => h
  | .str _, _, h => h
  | .tup ds, v, h => by
    obtain ⟨a, vs, e, h1, h2⟩ := h
    refine ⟨a, vs, e, ?_, Reps.begun hn ds vs h2⟩
    rcases h1 with (h1 | ⟨u, h1⟩) | h1
    · exact .inl (.inl (by rw [upd_ne (ne_of_none h1 hn)]; exact h1))
    · exact .inl (.inr ⟨u, by rw [upd_ne (ne_of_none h1 hn)]; exact h1⟩)
    · exact .inr h1
  | .lst ds, v, h => by
    obtain ⟨a, vs, e, h1, n, h2⟩ := h
    have hne := ne_of_none h1 hn
    refine ⟨a, vs, e, by rw [upd_ne hne]; exact h1, ⟨n.1, fun z => ?_⟩, Reps.begun hn ds vs h2⟩
    rcases List.mem_cons.mp z with z | z
    · exact hne z
    · exact n.2 z
  | .dct ks ds, v, h => by
    obtain ⟨a, vs, e, h1, n, l, h2⟩ := h
    have hne := ne_of_none h1 hn
    refine ⟨a, vs, e, by rw [upd_ne hne]; exact h1, ⟨n.1, fun z => ?_⟩, l, Reps.begun hn ds vs h2⟩
    rcases List.mem_cons.mp z with z | z
    · exact hne z
    · exact n.2 z
  | .scr is, v, h => by
    obtain ⟨a, e, h1⟩ := h
    refine ⟨a, e, ?_⟩
    rcases h1 with ⟨u, h1⟩ | h1
    · exact .inl ⟨u, by rw [upd_ne (ne_of_none h1 hn)]; exact h1⟩
    · exact .inr h1
  | .ref n, v, h => h
theorem Reps.begun {o : HO} (hn : H B = none) : ∀ (ds : List D) (vs : List V), Reps ⟨K, ps⟩ φ H ds vs → Reps ⟨K, B :: ps⟩ φ (upd H B o) ds vs
  | [], _, h => h
  | d :: ds, vs, h => by
    obtain ⟨v, r, e, h1, h2⟩ := h
    exact ⟨v, r, e, Rep.begun hn d v h1, Reps.begun hn ds r h2⟩
end
theorem MRep.begun {o : HO} (M : MRep ⟨K, ps⟩ φ H m) (hn : H B = none) (ho : Making (upd H B o) B) : MRep ⟨K, B :: ps⟩ φ (upd H B o) m := by
  refine ⟨M.nd, M.len, fun n ob e => ?_, fun a z => ?_⟩
  · obtain ⟨a, ha, r⟩ := M.ob n ob e
    refine ⟨a, ha, ?_⟩
    cases ob with
    | lst ds =>
      obtain ⟨vs, h1, h2⟩ := r
      exact ⟨vs, by rw [upd_ne (ne_of_none h1 hn)]; exact h1, Reps.begun hn ds vs h2⟩
    | dct kvs =>
      obtain ⟨vs, h1, h2⟩ := r
      exact ⟨vs, by rw [upd_ne (ne_of_none h1 hn)]; exact h1, Reps.begun hn _ vs h2⟩
  · rcases List.mem_cons.mp z with z | z
    · subst z
      exact ⟨ho, M.not_none hn⟩
    · have hne : a ≠ B := fun q => (M.res a z).1.some (by rw [q]; exact hn)
      exact ⟨(M.res a z).1.eq (upd_ne hne), (M.res a z).2⟩
theorem FrR.begun {o : HO} {ρ : EnvD} {σ : L2.St} (f : FrR ⟨K, ps⟩ φ H ρ σ) (hn : H B = none) : FrR ⟨K, B :: ps⟩ φ (upd H B o) ρ σ := ⟨f.1, fun i d e => by
  obtain ⟨v, h, r⟩ := f.2 i d e
  exact ⟨v, h, Rep.begun hn d v r⟩⟩
theorem FrR.grown {κ : KK} {o : HO} {ρ : EnvD} {σ : L2.St} (hB : B ∈ κ.ps) (hm : Making H B) (M : MRep κ φ H m) (f : FrR κ φ H ρ σ) : FrR κ φ (upd H B o) ρ σ := ⟨f.1, fun i d e => by
  obtain ⟨v, h, r⟩ := f.2 i d e
  exact ⟨v, h, Rep.grown hB hm M d v r⟩⟩
theorem Ext.off {φ1 : List Addr} {H0 : Hp} {o : HO} (x : Ext φ H0 φ1 H) (hn : H0 B = none) : Ext φ H0 φ1 (upd H B o) :=
  ⟨x.pre, fun a u e n => by rw [upd_ne (ne_of_none e hn)]; exact x.keep a u e n, x.new⟩

/-! ### what leaves a def -/
mutual
theorem Rep.cut {κ : KK} {k : Nat} (hp : φ <+: φ2) (hk : φ.length = k) : ∀ (d : D) (v : V), refsB k d = true → Rep κ φ2 H d v → Rep κ φ H d v
  | .non, _, _, h => h
  | .bl _, _, _, h => h
  | .int _, _, _, h => h
  | .str _, _, _, h => h
  | .tup ds, v, q, h => by
    obtain ⟨a, vs, e, h1, h2⟩ := h
    rw [refsB] at q
    exact ⟨a, vs, e, h1, Reps.cut hp hk ds vs q h2⟩
  | .lst ds, v, q, h => by
    obtain ⟨a, vs, e, h1, n, h2⟩ := h
    rw [refsB] at q
    exact ⟨a, vs, e, h1, ⟨fun z => n.1 (hp.subset z), n.2⟩, Reps.cut hp hk ds vs q h2⟩
  | .dct ks ds, v, q, h => by
    obtain ⟨a, vs, e, h1, n, l, h2⟩ := h
    rw [refsB] at q
    exact ⟨a, vs, e, h1, ⟨fun z => n.1 (hp.subset z), n.2⟩, l, Reps.cut hp hk ds vs q h2⟩
  | .scr is, v, _, h => h
  | .ref n, v, q, h => by
    obtain ⟨a, e, h1⟩ := h
    rw [refsB] at q
    refine ⟨a, e, ?_⟩
    obtain ⟨r, rfl⟩ := hp
    rw [List.getElem?_append_left (by rw [hk]; exact of_decide_eq_true q)] at h1
    exact h1
theorem Reps.cut {κ : KK} {k : Nat} (hp : φ <+: φ2) (hk : φ.length = k) : ∀ (ds : List D) (vs : List V), refsBs k ds = true → Reps κ φ2 H ds vs → Reps κ φ H ds vs
  | [], _, _, h => h
  | d :: ds, vs, q, h => by
    obtain ⟨v, r, e, h1, h2⟩ := h
    rw [refsBs, Bool.and_eq_true] at q
    exact ⟨v, r, e, Rep.cut hp hk d v q.1 h1, Reps.cut hp hk ds r q.2 h2⟩
end
theorem not_in_pre {k n : Nat} {a : Addr} (hp : φ <+: φ2) (hk : φ.length = k) (nd : φ2.Nodup) (hn : ¬ n < k) (h : φ2[n]? = some a) : a ∉ φ := fun z => by
  obtain ⟨i, hi, e⟩ := List.mem_iff_getElem.mp z
  have h2 : φ2[i]? = some a := pre_get hp (by rw [List.getElem?_eq_getElem hi, e])
  have e2 : n = i := (List.getElem?_inj (List.getElem?_eq_some_iff.mp h).1 nd).mp (h.trans h2.symm)
  omega
mutual
theorem Rep.frz {κ : KK} {k : Nat} {m2 : Mem} (hp : φ <+: φ2) (hk : φ.length = k) (M : MRep κ φ2 H m2) : ∀ (d e : D) (v : V), frzD m2 k d = some e → Rep κ φ2 H d v → Rep κ φ H e v
  | .non, _, _, q, h => by cases q; exact h
  | .bl _, _, _, q, h => by cases q; exact h
  | .int _, _, _, q, h => by cases q; exact h
  | .str _, _, _, q, h => by cases q; exact h
  | .tup ds, e, v, q, h => by
    obtain ⟨a, vs, e, h1, h2⟩ := h
    rw [frzD] at q
    obtain ⟨es, q2, rfl⟩ := Option.map_eq_some_iff.mp q
    exact ⟨a, vs, e, h1, Reps.frz hp hk M ds es vs q2 h2⟩
  | .lst ds, e, v, q, h => by
    obtain ⟨a, vs, e, h1, n, h2⟩ := h
    rw [frzD] at q
    obtain ⟨es, q2, rfl⟩ := Option.map_eq_some_iff.mp q
    exact ⟨a, vs, e, h1, ⟨fun z => n.1 (hp.subset z), n.2⟩, Reps.frz hp hk M ds es vs q2 h2⟩
  | .dct ks ds, e, v, q, h => by
    obtain ⟨a, vs, e, h1, n, l, h2⟩ := h
    rw [frzD] at q
    obtain ⟨es, q2, rfl⟩ := Option.map_eq_some_iff.mp q
    exact ⟨a, vs, e, h1, ⟨fun z => n.1 (hp.subset z), n.2⟩, l, Reps.frz hp hk M ds es vs q2 h2⟩
  | .scr is, _, _, q, h => by cases q; exact h
  | .ref n, e, v, q, h => by
    rw [frzD] at q
    split at q
    · rename_i hn
      cases q
      exact Rep.cut hp hk (.ref n) v (by rw [refsB]; exact decide_eq_true hn) h
    · rename_i hn
      split at q
      · rename_i ds hd
        split at q
        · rename_i hr
          cases q
          obtain ⟨a, vs, rfl, ha, h1, h2⟩ := ref_lst hd M h
          exact ⟨a, vs, rfl, h1, ⟨not_in_pre hp hk M.nd hn ha, fun z => (M.res a z).2 (List.mem_of_getElem? ha)⟩, Reps.cut hp hk ds vs hr h2⟩
        · cases q
      · rename_i kvs hd
        split at q
        · rename_i hr
          cases q
          obtain ⟨a, us, rfl, ha, h1, kr⟩ := ref_dct hd M h
          refine ⟨a, us.map (·.2), rfl, ?_, ⟨not_in_pre hp hk M.nd hn ha, fun z => (M.res a z).2 (List.mem_of_getElem? ha)⟩, ?_, Reps.cut hp hk _ _ hr kr.vals⟩
          · rw [← kr.unzip]
            exact h1
          · rw [List.length_map, List.length_map, kr.len]
        · cases q
      · cases q
theorem Reps.frz {κ : KK} {k : Nat} {m2 : Mem} (hp : φ <+: φ2) (hk : φ.length = k) (M : MRep κ φ2 H m2) : ∀ (ds es : List D) (vs : List V), frzDs m2 k ds = some es → Reps κ φ2 H ds vs → Reps κ φ H es vs
  | [], _, _, q, h => by cases q; exact h
  | d :: ds, es, vs, q, h => by
    obtain ⟨v, r, e, h1, h2⟩ := h
    rw [frzDs] at q
    split at q
    · rename_i e1 es1 q1 q2
      cases q
      exact ⟨v, r, e, Rep.frz hp hk M d e1 v q1 h1, Reps.frz hp hk M ds es1 r q2 h2⟩
    · cases q
end
theorem MRep.cut {κ : KK} {k : Nat} {m2 : Mem} (hp : φ <+: φ2) (hk : φ.length = k) (M : MRep κ φ2 H m2) (h : (m2.take k).all (obB k) = true) : MRep κ φ H (m2.take k) := by
  have hle : k ≤ m2.length := by
    rw [← hk, ← M.len]
    exact hp.length_le
  refine ⟨hp.sublist.nodup M.nd, by rw [List.length_take, hk]; omega, fun n ob e => ?_, fun a z => ⟨(M.res a z).1, fun q => (M.res a z).2 (hp.subset q)⟩⟩
  have hn : n < k := by
    have := (List.getElem?_eq_some_iff.mp e).1
    rw [List.length_take] at this
    omega
  have hob : obB k ob = true := List.all_eq_true.mp h ob (List.mem_of_getElem? e)
  rw [List.getElem?_take_of_lt hn] at e
  obtain ⟨a, ha, r⟩ := M.ob n ob e
  refine ⟨a, ?_, ?_⟩
  · obtain ⟨r, rfl⟩ := hp
    rw [List.getElem?_append_left (by rw [hk]; exact hn)] at ha
    exact ha
  · cases ob with
    | lst ds =>
      obtain ⟨vs, h1, h2⟩ := r
      exact ⟨vs, h1, Reps.cut hp hk ds vs hob h2⟩
    | dct kvs =>
      obtain ⟨vs, h1, h2⟩ := r
      exact ⟨vs, h1, Reps.cut hp hk _ vs hob h2⟩
theorem leave_ok {κ : KK} {H2 : Hp} {m2 : Mem} {d : D} {v : V} {Q : VK} (M0 : MRep κ φ H m) (x : Ext φ H φ2 H2) (M : MRep κ φ2 H2 m2) (r : Rep κ φ2 H2 d v) (p : PoE κ φ H Q (.ok (leave m.length d m2))) : Q v H2 := by
  unfold leave at p
  split at p
  · rename_i e he
    split at p
    · rename_i hall
      exact p v φ H2 ⟨List.prefix_refl _, x.keep, fun a h n => absurd h n⟩ (M.cut x.pre M0.len hall) (Rep.frz x.pre M0.len M d e v he r)
    · exact p v φ2 H2 x M r
  · exact p v φ2 H2 x M r
theorem finish_ok {κ : KK} {Q : VK} {r : R (Fl × Mem)} (M0 : MRep κ φ H m) (p : PoE κ φ H Q (finish m.length r)) : PoS κ φ H { nx := fun _ H' => Q .non H', rt := Q } r := by
  cases r with
  | ok a =>
    obtain ⟨fl, m2⟩ := a
    intro φ' H' x M
    cases fl with
    | nx ρ => exact fun σ _ => leave_ok M0 x M (d := .non) rfl p
    | brk ρ => exact p.elim
    | cnt ρ => exact p.elim
    | ret d => exact fun v rv => leave_ok M0 x M rv p
  | exc _ _ _ => exact p
  | bad => exact p
end

/-! ### targets -/
def gNames : List Nat → TGs
  | [] => gNil
  | i :: is => gCons (gName i) (gNames is)
def gT (K : PySem.W.Frag) : Tgt → TG
  | .nm i => gName i
  | .tp is => gTup K is.length (gNames is)
  | .no => fun _ _ _ _ => False
section
variable {κ : KK} {φ : List Addr} {H : Hp} {m : Mem} {ρ : EnvD} {σ : L2.St}
theorem names_ok {Q : L2.St → Hp → Prop} : ∀ (is : List Nat) (ds : List D) (vs : List V) (ρ : EnvD) (σ : L2.St), ds.length = is.length → Reps κ φ H ds vs → FrR κ φ H ρ σ → (∀ σ', FrR κ φ H (setAll is ds ρ) σ' → Q σ' H) → gNames is vs σ H Q
  | [], ds, vs, ρ, σ, hl, r, f, q => by
    have e : ds = [] := List.eq_nil_of_length_eq_zero hl
    subst e
    obtain rfl := r.zero
    exact ⟨rfl, q σ f⟩
  | i :: is, [], vs, ρ, σ, hl, r, f, q => by cases hl
  | i :: is, d :: ds, vs, ρ, σ, hl, r, f, q => by
    obtain ⟨v, r', rfl, h1, h2⟩ := r
    exact ⟨v, r', rfl, names_ok is ds r' (ρ.set i (some d)) (σ.set i (some v)) (by simpa using hl) h2 (f.set h1) q⟩
theorem tgt_ok {t : Tgt} {d : D} {v : V} {ρ' : EnvD} {Q : L2.St → Hp → Prop} (h : asgD t d ρ = some ρ') (r : Rep κ φ H d v) (f : FrR κ φ H ρ σ) (q : ∀ σ', FrR κ φ H ρ' σ' → Q σ' H) : gT κ.K t v σ H Q := by
  cases t with
  | nm i =>
    cases h
    exact q _ (f.set r)
  | tp is =>
    unfold asgD at h
    simp only at h
    split at h
    · split at h
      · rename_i ds hl
        cases h
        obtain ⟨a, vs, rfl, h1, h2⟩ := r
        exact ⟨a, vs, rfl, h1, by rw [← h2.len]; exact hl, names_ok is ds vs ρ σ hl h2 f q⟩
      · cases h
    · cases h
  | no => cases h
end
/-! the slots that a target stores -/
def Tgt.slots : Tgt → List Nat
  | .nm i => [i]
  | .tp is => is
  | .no => []
theorem wipe_set {σ : L2.St} {i : Nat} {x : Option V} : ∀ {vs : List Nat}, i ∈ vs → wipe (σ.set i x) vs = wipe σ vs
  | v :: vs, h => by
    unfold L2.wipe
    rcases List.mem_cons.mp h with e | h
    · subst e
      by_cases hv : i ∈ vs
      · rw [wipe_set hv]
      · have go : ∀ (ws : List Nat), i ∉ ws → wipe (σ.set i x) ws = (wipe σ ws).set i x := by
          intro ws
          induction ws with
          | nil => intro _; rfl
          | cons w ws ih =>
            intro hw
            unfold L2.wipe
            rw [ih fun z => hw (List.mem_cons_of_mem _ z), List.set_comm _ _ fun z => hw (by rw [z]; exact List.mem_cons_self)]
        rw [go vs hv, List.set_set]
    · rw [wipe_set h]
  | [], h => by cases h
theorem wipe_wipe {σ : L2.St} : ∀ (ws vs : List Nat), (∀ i ∈ ws, i ∈ vs) → wipe (wipe σ ws) vs = wipe σ vs
  | [], _, _ => rfl
  | w :: ws, vs, h => by
    rw [show wipe σ (w :: ws) = (wipe σ ws).set w none from rfl, wipe_set (h w List.mem_cons_self), wipe_wipe ws vs fun i hi => h i (List.mem_cons_of_mem _ hi)]
section
variable {κ : KK} {φ : List Addr} {H : Hp} {m : Mem} {ρ : EnvD} {σ : L2.St}
theorem names_wipe {Q : L2.St → Hp → Prop} {ws : List Nat} : ∀ (is : List Nat) (vs : List V) (σ : L2.St), (∀ i ∈ is, i ∈ ws) → gNames is vs σ H Q → gNames is vs σ H (fun σ' H' => wipe σ' ws = wipe σ ws ∧ Q σ' H')
  | [], vs, σ, _, h => ⟨h.1, rfl, h.2⟩
  | i :: is, vs, σ, hi, h => by
    obtain ⟨v, r, e, h⟩ := h
    refine ⟨v, r, e, ?_⟩
    have q := names_wipe is r (σ.set i (some v)) (fun j hj => hi j (List.mem_cons_of_mem _ hj)) h
    rw [wipe_set (hi i List.mem_cons_self)] at q
    exact q
theorem tgt_wipe {K : PySem.W.Frag} {t : Tgt} {v : V} {Q : L2.St → Hp → Prop} {ws : List Nat} (hs : ∀ i ∈ t.slots, i ∈ ws) (h : gT K t v σ H Q) : gT K t v σ H (fun σ' H' => wipe σ' ws = wipe σ ws ∧ Q σ' H') := by
  cases t with
  | nm i => exact ⟨wipe_set (hs i List.mem_cons_self), h⟩
  | tp is =>
    obtain ⟨a, xs, e, h1, hl, h2⟩ := h
    exact ⟨a, xs, e, h1, hl, names_wipe is xs σ hs h2⟩
  | no => exact h.elim
end
end Fp

set_option maxHeartbeats 4000000
/-! Fp7: what is walked, comprehensions, displays of dicts, statements -/
namespace Fp
open PySem PySem.Spec PyProof.Rows L2 RZ

/-! ### what is walked -/
section
variable {κ : KK} {φ : List Addr} {H : Hp} {m : Mem}
theorem walks_tup {a : Addr} {ds : List D} {vs : List V} (M : MRep κ φ H m) (h : SqT κ.K H a vs) (r : Reps κ φ H ds vs) : Walks κ (Itt κ.K a) ds none φ H := by
  intro ψ φ1 H1 m1 hw x M1 _ i
  have h1 : SqT κ.K H1 a vs := SqT.move M x h
  have r1 : Reps ⟨κ.K, ψ⟩ φ1 H1 ds vs := Reps.move M x hw _ _ r
  refine ⟨fun d hd => ?_, fun hd => ⟨vs, h1, ?_⟩⟩
  · obtain ⟨v, hv, q⟩ := r1.get hd
    refine ⟨⟨vs, v, h1, hv⟩, fun y H2 hy => ?_⟩
    obtain ⟨rfl, hy⟩ := hy
    have e : y = v := Option.some.inj ((hy vs h1).symm.trans hv)
    rw [e]
    exact ⟨Ext.refl, M1, q⟩
  · rw [← r1.len]
    exact List.getElem?_eq_none_iff.mp hd
theorem walks_sql {a : Addr} {ds : List D} {src : Option Nat}
    (h : ∀ (ψ φ1 : List Addr) (H1 : Hp) (m1 : Mem), (∀ b ∈ ψ, b ∈ κ.ps ∨ H b = none) → ExtP κ.ps φ H φ1 H1 → MRep ⟨κ.K, ψ⟩ φ1 H1 m1 → standsB src ds m1 = true → ∃ vs, SqL κ.K H1 a vs ∧ Reps ⟨κ.K, ψ⟩ φ1 H1 ds vs ∧ ∀ ws, SqL κ.K H1 a ws → True) : Walks κ (Itl κ.K a) ds src φ H := by
  intro ψ φ1 H1 m1 hw x M1 hs i
  obtain ⟨vs, h1, r1, _⟩ := h ψ φ1 H1 m1 hw x M1 hs
  refine ⟨fun d hd => ?_, fun hd => ⟨vs, h1, ?_⟩⟩
  · obtain ⟨v, hv, q⟩ := r1.get hd
    refine ⟨⟨vs, v, h1, hv⟩, fun y H2 hy => ?_⟩
    obtain ⟨rfl, hy⟩ := hy
    have e : y = v := Option.some.inj ((hy vs h1).symm.trans hv)
    rw [e]
    exact ⟨Ext.refl, M1, q⟩
  · rw [← r1.len]
    exact List.getElem?_eq_none_iff.mp hd
theorem walks_lst {a : Addr} {ds : List D} {vs : List V} (M : MRep κ φ H m) (h : H a = some (.lst vs)) (n : a ∉ φ ∧ a ∉ κ.ps) (r : Reps κ φ H ds vs) : Walks κ (Itl κ.K a) ds none φ H :=
  walks_sql fun ψ φ1 H1 m1 hw x M1 _ => ⟨vs, SqL.of (x.keep a _ h n.1 n.2), Reps.move M x hw _ _ r, fun _ _ => trivial⟩
theorem walks_ref {a : Addr} {n : Nat} {ds : List D} (h : φ[n]? = some a) : Walks κ (Itl κ.K a) ds (some n) φ H :=
  walks_sql fun ψ φ1 H1 m1 hw x M1 hs => by
    unfold standsB at hs
    simp only at hs
    split at hs
    · rename_i es he
      obtain rfl := eqDs_eq hs
      obtain ⟨b, hb, vs, h1, h2⟩ := M1.ob n _ he
      rw [pre_get x.pre h] at hb
      cases hb
      exact ⟨vs, SqL.of h1, h2, fun _ _ => trivial⟩
    · cases hs
theorem walks_scr {a : Addr} {is : List Int} (M : MRep κ φ H m) (h : (∃ o, H a = some (.frz o (.lst (is.map V.int)))) ∨ KL κ.K a (is.map V.int)) : Walks κ (Itl κ.K a) (is.map D.int) none φ H :=
  walks_sql fun ψ φ1 H1 m1 hw x M1 _ => by
    refine ⟨is.map V.int, ?_, Reps.ints, fun _ _ => trivial⟩
    rcases h with ⟨o, h⟩ | h
    · exact .inl (.inr ⟨o, x.keep a _ h (M.not_frz h) fun z => (M.res a z).1.ne_frz h rfl⟩)
    · exact .inr h
theorem upto_get {lo : Int} {n i : Nat} : (upto lo n)[i]? = if i < n then some (.int (lo + i)) else none := by
  unfold upto
  rw [List.getElem?_map]
  by_cases h : i < n
  · rw [if_pos h, List.getElem?_range h]
    rfl
  · rw [if_neg h, List.getElem?_eq_none (by rw [List.length_range]; omega)]
    rfl
theorem walks_range {lo : Int} {n : Nat} : Walks κ (Itr lo n) (upto lo n) none φ H := by
  intro ψ φ1 H1 m1 hw x M1 _ i
  rw [upto_get]
  refine ⟨fun d hd => ?_, fun hd => ?_⟩
  · split at hd
    · rename_i hi
      refine ⟨hi, fun y H2 hy => ?_⟩
      obtain ⟨rfl, rfl⟩ := hy
      cases hd
      exact ⟨Ext.refl, M1, rfl⟩
    · cases hd
  · split at hd
    · cases hd
    · exact Nat.le_of_not_lt ‹_›
theorem zipD_get : ∀ (xs ys : List D) (i : Nat), (zipD xs ys)[i]? = match xs[i]?, ys[i]? with
    | some x, some y => some (.tup [x, y])
    | _, _ => none
  | [], ys, i => by simp [zipD]
  | x :: xs, [], i => by
    simp only [zipD, List.zip_nil_right, List.map_nil, List.getElem?_nil]
    split
    · cases ‹(none : Option D) = _›
    · rfl
  | x :: xs, y :: ys, 0 => rfl
  | x :: xs, y :: ys, i + 1 => by
    have h := zipD_get xs ys i
    simp only [zipD, List.zip_cons_cons, List.map_cons, List.getElem?_cons_succ] at h ⊢
    exact h
theorem walks_zip {a b : Addr} {xs ys : List D} {vs ws : List V} (M : MRep κ φ H m) (h1 : SqT κ.K H a vs) (r1 : Reps κ φ H xs vs) (h2 : SqT κ.K H b ws) (r2 : Reps κ φ H ys ws) : Walks κ (ItzT κ.K a b) (zipD xs ys) none φ H := by
  intro ψ φ1 H1 m1 hw x M1 _ i
  have s1 : SqT κ.K H1 a vs := SqT.move M x h1
  have s2 : SqT κ.K H1 b ws := SqT.move M x h2
  have q1 : Reps ⟨κ.K, ψ⟩ φ1 H1 xs vs := Reps.move M x hw _ _ r1
  have q2 : Reps ⟨κ.K, ψ⟩ φ1 H1 ys ws := Reps.move M x hw _ _ r2
  rw [zipD_get]
  refine ⟨fun d hd => ?_, fun hd => ⟨vs, ws, s1, s2, ?_⟩⟩
  · split at hd
    · rename_i dx dy ex ey
      cases hd
      obtain ⟨v, hv, p1⟩ := q1.get ex
      obtain ⟨w, hw', p2⟩ := q2.get ey
      refine ⟨⟨vs, ws, v, w, s1, s2, hv, hw'⟩, fun y H2 hy => ?_⟩
      obtain ⟨T, x', y', rfl, hT, rfl, f1, f2⟩ := hy
      have e1 : x' = v := Option.some.inj ((f1 vs s1).symm.trans hv)
      have e2 : y' = w := Option.some.inj ((f2 ws s2).symm.trans hw')
      subst e1 e2
      have x2 := Ext.laid (o := .tup [x', y']) M1 hT
      exact ⟨x2, M1.laid hT, T, _, rfl, SqT.of upd_same, Reps.ext M1 x2 _ _ (Reps.cons p1 (Reps.cons p2 Reps.nil))⟩
    · cases hd
  · rw [← q1.len, ← q2.len]
    by_cases e1 : xs.length ≤ i
    · exact .inl e1
    · by_cases e2 : ys.length ≤ i
      · exact .inr e2
      · rw [List.getElem?_eq_getElem (by omega), List.getElem?_eq_getElem (by omega)] at hd
        cases hd
end

/-! a list or a tuple, as it comes -/
def iSeqD (K : PySem.W.Frag) (tl : TE) : TI := fun σ H R => tl σ H fun x H1 => ∃ a, x = .ref a ∧ (((∃ xs, SqL K H1 a xs) ∧ R (Itl K a) H1) ∨ ((∃ xs, SqT K H1 a xs) ∧ R (Itt K a) H1))
theorem pi_seqD {X : Cx} {tg l : Expr} {tl : TE} (hl : PE X l tl) : PI X tg l (iSeqD X.K tl) := by
  refine ⟨fun pins s σ H R I h => ?_⟩
  refine thn (hl.run pins s σ H _ I h) fun u s1 hq => ?_
  obtain ⟨x, H1, J, rx, a, ex, q⟩ := hq
  subst ex
  have fr : ∀ b ∈ [s1.heap.objs.size], FpOk X pins H1 b := fun b hb => by
    rw [List.mem_singleton.mp hb]
    exact J.fpOk (Nat.le_refl _) (J.hok.fresh (Nat.le_refl _))
  cases rx
  rcases q with ⟨⟨xs, hx⟩, q⟩ | ⟨⟨xs, hx⟩, q⟩
  · obtain ⟨its, rv, pl, _⟩ := J.list hx
    refine wpAny_pyIter_list pl.isList ⟨_, _, _, Itl X.K a, H1, rfl, ?_, turn_list a _, ?_, fr, q⟩
    · exact J.kept (t' := s1.toks) fun b o e => Heap.get?_push_of_some _ e
    · exact ⟨_, Heap.get?_push_size _ rfl, rfl, rfl⟩
  · obtain ⟨its, rv, pl, _⟩ := J.tuple hx
    refine wpAny_pyIter_tuple (show s1.heap.IsTuple a its.toArray from pl) ⟨_, _, _, Itt X.K a, H1, rfl, ?_, turn_tuple a _, ?_, fr, q⟩
    · exact J.kept (t' := s1.toks) fun b o e => Heap.get?_push_of_some _ e
    · exact ⟨_, Heap.get?_push_size _ rfl, rfl, rfl⟩
section
variable {κ : KK} {c : Cxt} {σ : L2.St} {H : Hp}
theorem t_seq {A : SE} {R : It → Hp → Prop} (h : tI κ c (siSeq A) σ H R) : iSeqD κ.K (tE κ c A) σ H R := by
  obtain ⟨φ, ρ, m, fr, M, p⟩ := h
  refine ⟨φ, ρ, m, fr, M, (Po.bind (Rl := Rep κ) p).mono fun x H1 ⟨φ1, m1, d1, e1, M1, r1, p1⟩ => ?_⟩
  cases d1 with
  | tup ds =>
    obtain ⟨a, vs, rfl, h1, q⟩ := r1
    exact ⟨a, rfl, .inr ⟨⟨vs, h1⟩, p1 _ φ1 H1 Ext.refl M1 (walks_tup M1 h1 q)⟩⟩
  | lst ds =>
    obtain ⟨a, vs, rfl, h1, n, q⟩ := r1
    exact ⟨a, rfl, .inl ⟨⟨vs, SqL.of h1⟩, p1 _ φ1 H1 Ext.refl M1 (walks_lst M1 h1 n q)⟩⟩
  | scr is =>
    obtain ⟨a, rfl, h1⟩ := r1
    refine ⟨a, rfl, .inl ⟨⟨is.map V.int, ?_⟩, p1 _ φ1 H1 Ext.refl M1 (walks_scr M1 h1)⟩⟩
    rcases h1 with ⟨o, h1⟩ | h1
    · exact .inl (.inr ⟨o, h1⟩)
    · exact .inr h1
  | ref n =>
    simp only at p1
    split at p1
    · rename_i ds he
      obtain ⟨a, vs, rfl, ha, h1, q⟩ := ref_lst he M1 r1
      exact ⟨a, rfl, .inl ⟨⟨vs, SqL.of h1⟩, p1 _ φ1 H1 Ext.refl M1 (walks_ref ha)⟩⟩
    · exact p1.elim
  | _ => exact p1.elim
theorem t_range1 {A : SA} {R : It → Hp → Prop} (h : tI κ c (siRange1 A) σ H R) : iRng1 (tA κ c A) σ H R := by
  obtain ⟨φ, ρ, m, fr, M, p⟩ := h
  refine ⟨φ, ρ, m, fr, M, (Po.bind (Rl := Reps κ) p).mono fun x H1 ⟨φ1, m1, d1, e1, M1, r1, p1⟩ => ?_⟩
  split at p1
  · rename_i j hj
    have hj' : d1 = [.int j] := hj
    subst hj'
    obtain ⟨v, rfl, rv⟩ := r1.one
    obtain rfl : v = .int j := rv
    split at p1
    · rename_i hs
      unfold smallI at hs
      rw [Bool.and_eq_true] at hs
      exact ⟨j, rfl, of_decide_eq_true hs.1, of_decide_eq_true hs.2, p1 _ φ1 H1 Ext.refl M1 walks_range⟩
    · exact p1.elim
  · exact p1.elim
theorem t_range2 {A : SA} {R : It → Hp → Prop} (h : tI κ c (siRange2 A) σ H R) : iRng2 (tA κ c A) σ H R := by
  obtain ⟨φ, ρ, m, fr, M, p⟩ := h
  refine ⟨φ, ρ, m, fr, M, (Po.bind (Rl := Reps κ) p).mono fun x H1 ⟨φ1, m1, d1, e1, M1, r1, p1⟩ => ?_⟩
  split at p1
  · rename_i i j hj
    have hj' : d1 = [.int i, .int j] := hj
    subst hj'
    obtain ⟨v, w, rfl, rv, rw'⟩ := r1.two
    obtain rfl : v = .int i := rv
    obtain rfl : w = .int j := rw'
    split at p1
    · rename_i hs
      unfold smallI at hs
      rw [Bool.and_eq_true, Bool.and_eq_true, Bool.and_eq_true] at hs
      exact ⟨i, j, rfl, ⟨of_decide_eq_true hs.1.1, of_decide_eq_true hs.1.2, of_decide_eq_true hs.2.1, of_decide_eq_true hs.2.2⟩, p1 _ φ1 H1 Ext.refl M1 walks_range⟩
    · exact p1.elim
  · exact p1.elim
theorem t_zip {A : SA} {R : It → Hp → Prop} (h : tI κ c (siZip A) σ H R) : iZipA κ.K (tA κ c A) σ H R := by
  obtain ⟨φ, ρ, m, fr, M, p⟩ := h
  refine ⟨φ, ρ, m, fr, M, (Po.bind (Rl := Reps κ) p).mono fun x H1 ⟨φ1, m1, d1, e1, M1, r1, p1⟩ => ?_⟩
  split at p1
  · rename_i xs ys hj
    have hj' : d1 = [.tup xs, .tup ys] := hj
    subst hj'
    obtain ⟨v, w, rfl, rv, rw'⟩ := r1.two
    obtain ⟨a, vs, rfl, h1, q1⟩ := rv
    obtain ⟨b, ws, rfl, h2, q2⟩ := rw'
    exact ⟨a, b, vs, ws, rfl, .inr ⟨h1, h2, p1 _ φ1 H1 Ext.refl M1 (walks_zip M1 h1 q1 h2 q2)⟩⟩
  · exact p1.elim
end

/-! ### whatever is spoken for -/
def exE (K : PySem.W.Frag) (c : Cxt) (F : SE) : TE := fun σ H Q => ∃ ψ, tE ⟨K, ψ⟩ c F σ H Q
def exT (K : PySem.W.Frag) (c : Cxt) (F : ST) : TT := fun σ H Q => ∃ ψ, tT ⟨K, ψ⟩ c F σ H Q
def exI (K : PySem.W.Frag) (c : Cxt) (F : SI) : TI := fun σ H Q => ∃ ψ, tI ⟨K, ψ⟩ c F σ H Q
theorem PE.any {X : Cx} {e : Expr} {c : Cxt} {F : SE} (h : ∀ ψ, PE X e (tE (kk X ψ) c F)) : PE X e (exE X.K c F) := ⟨fun pins s σ H Q I ⟨ψ, q⟩ => (h ψ).run pins s σ H Q I q⟩
theorem PT.any {X : Cx} {e : Expr} {c : Cxt} {F : ST} (h : ∀ ψ, PT X e (tT (kk X ψ) c F)) : PT X e (exT X.K c F) := ⟨fun pins s σ H Q I ⟨ψ, q⟩ => (h ψ).run pins s σ H Q I q⟩
theorem PI.any {X : Cx} {g e : Expr} {c : Cxt} {F : SI} (h : ∀ ψ, PI X g e (tI (kk X ψ) c F)) : PI X g e (exI X.K c F) := ⟨fun pins s σ H Q I ⟨ψ, q⟩ => (h ψ).run pins s σ H Q I q⟩

end Fp

set_option maxHeartbeats 4000000
/-! Fp8: comprehensions -/
namespace Fp
open PySem PySem.Spec PyProof.Rows L2 RZ

/-! ### comprehensions -/
section
variable {K : PySem.W.Frag} {ψ : List Addr} {c : Cxt} {B : Addr} {φ1 : List Addr} {H1 : Hp}
theorem R.bind_assoc {α β γ : Type} (r : R α) (f : α → R β) (g : β → R γ) : (r.bind f).bind g = r.bind fun a => (f a).bind g := by
  cases r <;> rfl
/-- a comprehension's state: what is made stands at B -/
structure Mk0 (K : PySem.W.Frag) (ψ : List Addr) (B : Addr) (G : List Addr → Hp → Prop) (ρ : EnvD) (σ : L2.St) (ρo : EnvD) (σo : L2.St) (acc : List D) (φ : List Addr) (H : Hp) (m : Mem) : Prop where
  ok : G φ H
  mem : MRep ⟨K, B :: ψ⟩ φ H m
  fr : FrR ⟨K, B :: ψ⟩ φ H ρ σ
  fro : FrR ⟨K, B :: ψ⟩ φ H ρo σo
  at_ : ∃ vs, H B = some (.lst vs) ∧ Reps ⟨K, B :: ψ⟩ φ H acc vs
/-- what stays, whatever is made -/
structure Clo (B : Addr) (G : List Addr → Hp → Prop) : Prop where
  later : ∀ φ H φ2 H2, G φ H → Ext φ H φ2 H2 → G φ2 H2
  made : ∀ φ H o, G φ H → G φ (upd H B o)
theorem Clo.ext (hn : H1 B = none) : Clo B (Ext φ1 H1) := ⟨fun _ _ _ _ g x => g.trans x, fun _ _ _ g => g.off hn⟩
theorem Clo.extP {P : List Addr} (hB : B ∈ P ∨ H1 B = none) : Clo B (ExtP P φ1 H1) := ⟨fun _ _ _ _ g x => g.later x, fun _ _ _ g => g.made hB⟩
theorem Clo.and {G G' : List Addr → Hp → Prop} (a : Clo B G) (b : Clo B G') : Clo B (fun φ H => G φ H ∧ G' φ H) := ⟨fun _ _ _ _ g x => ⟨a.later _ _ _ _ g.1 x, b.later _ _ _ _ g.2 x⟩, fun _ _ _ g => ⟨a.made _ _ _ g.1, b.made _ _ _ g.2⟩⟩
theorem Mk0.later {G : List Addr → Hp → Prop} {ρ ρo : EnvD} {σ σo : L2.St} {acc : List D} {φ φ2 : List Addr} {H H2 : Hp} {m m2 : Mem} (g : Clo B G) (S : Mk0 K ψ B G ρ σ ρo σo acc φ H m) (x : Ext φ H φ2 H2) (M2 : MRep ⟨K, B :: ψ⟩ φ2 H2 m2) : Mk0 K ψ B G ρ σ ρo σo acc φ2 H2 m2 := by
  obtain ⟨vs, h, r⟩ := S.at_
  exact ⟨g.later _ _ _ _ S.ok x, M2, S.fr.ext S.mem x, S.fro.ext S.mem x, vs, x.keep B _ h (S.mem.res B List.mem_cons_self).2, Reps.ext S.mem x _ _ r⟩
theorem Mk0.push {G : List Addr → Hp → Prop} {ρ ρo : EnvD} {σ σo : L2.St} {acc : List D} {φ : List Addr} {H : Hp} {m : Mem} {d : D} {v : V} (g : Clo B G) (S : Mk0 K ψ B G ρ σ ρo σo acc φ H m) (r : Rep ⟨K, B :: ψ⟩ φ H d v) :
    ∃ vs, H B = some (.lst vs) ∧ vs.length = acc.length ∧ Mk0 K ψ B G ρ σ ρo σo (acc ++ [d]) φ (upd H B (.lst (vs ++ [v]))) m := by
  obtain ⟨vs, h, q⟩ := S.at_
  have hB : B ∈ (⟨K, B :: ψ⟩ : KK).ps := List.mem_cons_self
  have hm : Making H B := .inl ⟨vs, h⟩
  exact ⟨vs, h, q.len.symm, g.made _ _ _ S.ok, S.mem.grown hB hm (.inl ⟨_, upd_same⟩), S.fr.grown hB hm S.mem, S.fro.grown hB hm S.mem, _, upd_same, Reps.grown hB hm S.mem _ _ (Reps.append q (Reps.cons r Reps.nil))⟩
/-- the end: the list is a value, or an object of the memory -/
theorem Mk0.done {G : List Addr → Hp → Prop} {ρ ρo : EnvD} {σ σo : L2.St} {acc : List D} {φ : List Addr} {H : Hp} {m m0 : Mem} {al : Bool} {Q : VK} (hn : H1 B = none) (M1 : MRep ⟨K, ψ⟩ φ1 H1 m0) (hG : ∀ φ H, G φ H → Ext φ1 H1 φ H) (S : Mk0 K ψ B G ρ σ ρo σo acc φ H m)
    (p : PoE ⟨K, ψ⟩ φ1 H1 Q (mkL al acc m)) : Q (.ref B) H := by
  obtain ⟨vs, h, q⟩ := S.at_
  have hres := S.mem.res B List.mem_cons_self
  have hψ : B ∉ ψ := fun z => (M1.res B z).1.some hn
  have hx := hG _ _ S.ok
  unfold mkL at p
  split at p
  · cases al with
    | false => exact p (.ref B) φ H hx S.mem.less ⟨B, vs, rfl, h, ⟨hres.2, hψ⟩, Reps.less _ _ q⟩
    | true =>
      refine p (.ref B) (φ ++ [B]) H ⟨hx.pre.trans (pre_snoc φ B), hx.keep, fun a z n => ?_⟩ (S.mem.known hψ (ob := .lst acc) ⟨vs, h, q⟩) ⟨B, rfl, ?_⟩
      · rcases List.mem_append.mp z with z | z
        · exact hx.new a z n
        · rw [List.mem_singleton.mp z]
          exact hn
      · rw [← S.mem.len, List.getElem?_append_right (Nat.le_refl _), Nat.sub_self]
        rfl
  · exact p.elim
/-- how the walk goes on: the items so far, the memory -/
abbrev Kont := List D → Mem → RD
/-- whatever follows, the list stays short -/
def Short (k : Kont) : Prop := ∀ (φ : List Addr) (H : Hp) (Q : VK) (acc : List D) (m : Mem), PoE ⟨K, ψ⟩ φ H Q (k acc m) → acc.length ≤ LIM
theorem short_mk (al : Bool) : Short (K := K) (ψ := ψ) (mkL al) := fun φ H Q acc m p => by
  unfold mkL at p
  split at p
  · assumption
  · exact p.elim
theorem short_comp {f : D → Mem → R (List D × Mem)} {src : Option Nat} {all ds : List D} {k : Kont} (hk : Short (K := K) (ψ := ψ) k) : Short (K := K) (ψ := ψ) fun acc m => (compL f src all ds m).bind fun y => k (acc ++ y.1) y.2 := fun φ H Q acc m p => by
  have p : PoE ⟨K, ψ⟩ φ H Q ((compL f src all ds m).bind fun y => k (acc ++ y.1) y.2) := p
  cases e : compL f src all ds m with
  | ok y =>
    rw [e] at p
    have h := hk φ H Q _ _ p
    rw [List.length_append] at h
    omega
  | exc _ _ _ =>
    rw [e] at p
    exact p.elim
  | bad =>
    rw [e] at p
    exact p.elim
/-- one turn of the last clause -/
theorem turn_ok {G : List Addr → Hp → Prop} {t : Tgt} {tt : ST} {e : SE} {own : List Nat} {ρ ρo : EnvD} {σ σo : L2.St} {acc : List D} {φ : List Addr} {H H2 : Hp} {m : Mem} {d : D} {x : V} {k : Kont} {Q : VK} {Nx : Hp → Prop} (g : Clo B G) (hs : ∀ i ∈ t.slots, i ∈ own)
    (hk : Short (K := K) (ψ := ψ) k) (hN : ∀ acc φ H m, Mk0 K ψ B G (wipeD ρ own) (wipe σ own) ρo σo acc φ H m → PoE ⟨K, ψ⟩ φ1 H1 Q (k acc m) → Nx H)
    (S : Mk0 K ψ B G (wipeD ρ own) (wipe σ own) ρo σo acc φ H m) (x2 : Ext φ H φ H2) (M2 : MRep ⟨K, B :: ψ⟩ φ H2 m) (rx : Rep ⟨K, B :: ψ⟩ φ H2 d x)
    (p : PoE ⟨K, ψ⟩ φ1 H1 Q ((compTurn t tt e c (wipeD ρ own) d m).bind fun y => k (acc ++ y.1) y.2)) :
    gT K t x (wipe σ own) H2 fun σ2 H2 => wipe σ2 own = wipe σ own ∧ exT K c tt σ2 H2 fun b H3 => if b = true then exE K c e σ2 H3 fun y H4 => ∃ acc, H4 B = some (.lst acc) ∧ acc.length < sizeLine ∧ Nx (upd H4 B (.lst (acc ++ [y]))) else Nx H3 := by
  have S2 := S.later g x2 M2
  unfold compTurn at p
  split at p
  · rename_i ρ' hρ
    have key := tgt_wipe (ws := own) hs (tgt_ok (κ := ⟨K, B :: ψ⟩) (Q := fun σ2 H2' => H2' = H2 ∧ FrR ⟨K, B :: ψ⟩ φ H2 ρ' σ2) hρ rx S2.fr fun σ' f => ⟨rfl, f⟩)
    have key2 : gT K t x (wipe σ own) H2 fun σ2 H2' => wipe σ2 own = wipe σ own ∧ H2' = H2 ∧ FrR ⟨K, B :: ψ⟩ φ H2 ρ' σ2 := by
      rw [wipe_wipe own own fun i hi => hi] at key
      exact key
    have mono : ∀ {P P' : L2.St → Hp → Prop}, (∀ σ H, P σ H → P' σ H) → gT K t x (wipe σ own) H2 P → gT K t x (wipe σ own) H2 P' := by
      intro P P' hp gg
      cases t with
      | nm i => exact hp _ _ gg
      | tp is =>
        obtain ⟨a, xs, e1, e2, e3, gg⟩ := gg
        refine ⟨a, xs, e1, e2, e3, ?_⟩
        have go : ∀ (is : List Nat) (vs : List V) (σ : L2.St), gNames is vs σ H2 P → gNames is vs σ H2 P' := by
          intro is
          induction is with
          | nil => exact fun vs σ g => ⟨g.1, hp _ _ g.2⟩
          | cons i is ih =>
            intro vs σ g
            obtain ⟨v, r, e, g⟩ := g
            exact ⟨v, r, e, ih _ _ g⟩
        exact go is xs _ gg
      | no => exact gg
    refine mono (fun σ2 H2' hq => ?_) key2
    obtain ⟨hw, rfl, f2⟩ := hq
    refine ⟨hw, B :: ψ, φ, ρ', m, f2, M2, ?_⟩
    show Po _ _ _ _ _ (tt c ρ' m)
    cases ht : tt c ρ' m with
    | ok b =>
      rw [ht] at p
      intro b' φ3 H3 x3 M3 eb
      have eb' : b.1 = b' := eb
      subst eb'
      have S3 := S2.later g x3 M3
      cases hb : b.1 with
      | false =>
        rw [if_neg Bool.false_ne_true]
        simp only [R.bind_ok, hb, Bool.false_eq_true, if_false, List.append_nil] at p
        exact hN _ _ _ _ S3 p
      | true =>
        rw [if_pos rfl]
        simp only [R.bind_ok, hb, if_true] at p
        refine ⟨B :: ψ, φ3, ρ', b.2, f2.ext M2 x3, M3, ?_⟩
        show Po _ _ _ _ _ (e c ρ' b.2)
        cases he : e c ρ' b.2 with
        | ok y =>
          rw [he] at p
          intro v φ4 H4 x4 M4 rv
          have S4 := S3.later g x4 M4
          obtain ⟨vs, hB, hl, S5⟩ := S4.push g rv
          have p' : PoE ⟨K, ψ⟩ φ1 H1 Q (k (acc ++ [y.1]) y.2) := p
          have hsh := hk _ _ _ _ _ p'
          rw [List.length_append, List.length_singleton] at hsh
          exact ⟨vs, hB, by rw [← LIM_eq]; omega, hN _ _ _ _ S5 p'⟩
        | exc _ _ _ =>
          rw [he] at p
          exact p.elim
        | bad =>
          rw [he] at p
          exact p.elim
    | exc _ _ _ =>
      rw [ht] at p
      exact p.elim
    | bad =>
      rw [ht] at p
      exact p.elim
  · exact p.elim
theorem compL_cons {f : D → Mem → R (List D × Mem)} {src : Option Nat} {all ds : List D} {d : D} {m : Mem} {k : Kont} {acc : List D} (h : standsB src all m = true) :
    ((compL f src all (d :: ds) m).bind fun y => k (acc ++ y.1) y.2) = (f d m).bind fun x => (compL f src all ds x.2).bind fun y => k ((acc ++ x.1) ++ y.1) y.2 := by
  rw [compL, if_pos h, R.bind_assoc]
  congr 1
  funext x
  rw [R.bind_assoc]
  congr 1
  funext y
  simp only [R.bind_ok, List.append_assoc]
/-- the loop of the last clause -/
theorem loop_ok {G : List Addr → Hp → Prop} {t : Tgt} {tt : ST} {e : SE} {own : List Nat} {ρ ρo : EnvD} {σ σo : L2.St} {k : Kont} {Q : VK} {Stop : Hp → Prop} {J : It} {items : List D} {src : Option Nat} {acc0 : List D} {φs φ0 : List Addr} {Hs H0 : Hp} {ms : Mem} {ψ0 : List Addr} (g : Clo B G) (hs : ∀ i ∈ t.slots, i ∈ own)
    (hk : Short (K := K) (ψ := ψ) k) (wk : Walks ⟨K, ψ0⟩ J items src φ0 H0) (hψ : ∀ a ∈ B :: ψ, a ∈ ψ0 ∨ H0 a = none)
    (hstop : ∀ acc φ H m, Mk0 K ψ B G (wipeD ρ own) (wipe σ own) ρo σo acc φ H m → PoE ⟨K, ψ⟩ φ1 H1 Q (k acc m) → Stop H) (x0 : ExtP ψ0 φ0 H0 φs Hs)
    (S0 : Mk0 K ψ B G (wipeD ρ own) (wipe σ own) ρo σo acc0 φs Hs ms) (p0 : PoE ⟨K, ψ⟩ φ1 H1 Q ((compL (compTurn t tt e c (wipeD ρ own)) src items items ms).bind fun y => k (acc0 ++ y.1) y.2)) :
    ∃ W : Nat → Nat → Hp → Prop, (∃ m, W 0 m Hs) ∧ ∀ i n H, W i n H → (J.stop i H ∧ Stop H) ∨ (J.go i H ∧ ∃ Nx : Hp → Prop, (∀ H', Nx H' → ∃ n', n' < n ∧ W (i + 1) n' H') ∧ ∀ x H', J.yld i H x H' → gT K t x (wipe σ own) H' fun σ2 H2 => wipe σ2 own = wipe σ own ∧ exT K c tt σ2 H2 fun b H3 =>
      if b = true then exE K c e σ2 H3 fun y H4 => ∃ acc, H4 B = some (.lst acc) ∧ acc.length < sizeLine ∧ Nx (upd H4 B (.lst (acc ++ [y]))) else Nx H3) := by
  have hBψ : B ∈ ψ0 ∨ H0 B = none := hψ B List.mem_cons_self
  have g2 : Clo B (fun φ H => G φ H ∧ ExtP ψ0 φ0 H0 φ H) := g.and (Clo.extP hBψ)
  let st : Nat → List D → List Addr → Hp → Mem → Prop := fun i acc φ H m => Mk0 K ψ B (fun φ H => G φ H ∧ ExtP ψ0 φ0 H0 φ H) (wipeD ρ own) (wipe σ own) ρo σo acc φ H m ∧
    PoE ⟨K, ψ⟩ φ1 H1 Q ((compL (compTurn t tt e c (wipeD ρ own)) src items (items.drop i) m).bind fun y => k (acc ++ y.1) y.2)
  refine ⟨fun i n H => n = items.length - i ∧ i ≤ items.length ∧ ∃ acc φ m, st i acc φ H m, ⟨_, rfl, Nat.zero_le _, acc0, φs, ms, ⟨⟨S0.ok, x0⟩, S0.mem, S0.fr, S0.fro, S0.at_⟩, p0⟩, ?_⟩
  rintro i n H ⟨rfl, hi, acc, φ, m, S, p⟩
  by_cases hst : standsB src items m = true
  · have wki := wk (B :: ψ) φ H m hψ S.ok.2 S.mem hst i
    by_cases hlt : i < items.length
    · refine .inr ?_
      rw [List.drop_eq_getElem_cons hlt, compL_cons hst] at p
      obtain ⟨go, yl⟩ := wki.1 items[i] (List.getElem?_eq_getElem hlt)
      refine ⟨go, fun H' => ∃ acc φ m, st (i + 1) acc φ H' m, fun H' ⟨acc, φ, m, h⟩ => ⟨items.length - (i + 1), by omega, rfl, hlt, acc, φ, m, h⟩, fun x H' hy => ?_⟩
      obtain ⟨x2, M2, rx⟩ := yl x H' hy
      exact turn_ok g2 hs (short_comp hk) (fun acc φ H m S p => ⟨acc, φ, m, S, p⟩) S x2 M2 rx p
    · refine .inl ⟨wki.2 (List.getElem?_eq_none (by omega)), ?_⟩
      rw [List.drop_eq_nil_of_le (by omega), compL, if_pos hst, R.bind_ok, List.append_nil] at p
      exact hstop _ _ _ _ ⟨S.ok.1, S.mem, S.fr, S.fro, S.at_⟩ p
  · have hbad : ∀ ds, compL (compTurn t tt e c (wipeD ρ own)) src items ds m = .bad := fun ds => by
      cases ds <;> rw [compL, if_neg hst]
    rw [hbad] at p
    exact p.elim
end
section
variable {K : PySem.W.Frag} {ψ : List Addr} {c : Cxt} {σ : L2.St} {H : Hp}
theorem t_comp {al : Bool} {it : SI} {t : Tgt} {own : List Nat} {tt : ST} {e : SE} {Q : VK} (hs : ∀ i ∈ t.slots, i ∈ own) (h : tE ⟨K, ψ⟩ c (sComp al it t own tt e) σ H Q) :
    tLc (tI ⟨K, ψ⟩ c it) (gT K t) (exT K c tt) (exE K c e) own σ H Q := by
  obtain ⟨φ, ρ, m, fr, M, p⟩ := h
  refine ⟨φ, ρ, m, fr, M, (Po.bind (Rl := fun φ' H' a J => Walks ⟨K, ψ⟩ J a.1 a.2 φ' H') p).mono fun J H1 ⟨φ1, m1, a, e1, M1, wk, p1⟩ => ?_⟩
  intro B hB
  have fr1 : FrR ⟨K, ψ⟩ φ1 H1 ρ σ := fr.ext M e1
  have fr2 : FrR ⟨K, B :: ψ⟩ φ1 (upd H1 B (.lst [])) ρ σ := fr1.begun hB
  refine loop_ok (B := B) (ψ := ψ) (G := Ext φ1 H1) (ρo := wipeD ρ own) (σo := wipe σ own) (acc0 := []) (φ0 := φ1) (H0 := H1) (ψ0 := ψ) (φ1 := φ1) (H1 := H1) (Clo.ext hB) hs (short_mk al) wk (fun b z => ?_) (fun acc φ H m S p => Mk0.done hB M1 (fun _ _ x => x) S p) ?_ ⟨Ext.refl.off hB, M1.begun hB (.inl ⟨_, upd_same⟩), fr2.wipe own, fr2.wipe own, [], upd_same, rfl⟩ ?_
  · rcases List.mem_cons.mp z with z | z
    · exact .inr (by rw [z]; exact hB)
    · exact .inl z
  · exact (Ext.refl.off hB).toP M1
  · exact p1
theorem gT_mono {K : PySem.W.Frag} {t : Tgt} {x : V} {P P' : L2.St → Hp → Prop} (hp : ∀ σ H, P σ H → P' σ H) (gg : gT K t x σ H P) : gT K t x σ H P' := by
  cases t with
  | nm i => exact hp _ _ gg
  | tp is =>
    obtain ⟨a, xs, e1, e2, e3, gg⟩ := gg
    refine ⟨a, xs, e1, e2, e3, ?_⟩
    have go : ∀ (is : List Nat) (vs : List V) (σ : L2.St), gNames is vs σ H P → gNames is vs σ H P' := by
      intro is
      induction is with
      | nil => exact fun vs σ g => ⟨g.1, hp _ _ g.2⟩
      | cons i is ih =>
        intro vs σ g
        obtain ⟨v, r, e, g⟩ := g
        exact ⟨v, r, e, ih _ _ g⟩
    exact go is xs _ gg
  | no => exact gg
theorem t_comp2 {al : Bool} {it it1 : SI} {t t1 : Tgt} {own own1 : List Nat} {tt1 : ST} {e : SE} {Q : VK} (hs : ∀ i ∈ t.slots, i ∈ own) (hs1 : ∀ i ∈ t1.slots, i ∈ own1) (h : tE ⟨K, ψ⟩ c (sComp2 al it t own it1 own1 t1 tt1 e) σ H Q) :
    tLc2 (tI ⟨K, ψ⟩ c it) (gT K t) tYes (exI K c it1) (gT K t1) (exT K c tt1) (exE K c e) own own1 σ H Q := by
  obtain ⟨φ, ρ, m, fr, M, p⟩ := h
  refine ⟨φ, ρ, m, fr, M, (Po.bind (Rl := fun φ' H' a J => Walks ⟨K, ψ⟩ J a.1 a.2 φ' H') p).mono fun J H1 ⟨φ1, m1, a, e1, M1, wk, p1⟩ => ?_⟩
  intro B hB
  obtain ⟨items, src⟩ := a
  have fr1 : FrR ⟨K, ψ⟩ φ1 H1 ρ σ := fr.ext M e1
  have fr2 : FrR ⟨K, B :: ψ⟩ φ1 (upd H1 B (.lst [])) ρ σ := fr1.begun hB
  have p1 : PoE ⟨K, ψ⟩ φ1 H1 Q ((compL (compTurn2 t it1 own1 t1 tt1 e c (wipeD ρ own)) src items items m1).bind fun y => mkL al ([] ++ y.1) y.2) := p1
  have x0 : ExtP ψ φ1 H1 φ1 (upd H1 B (.lst [])) := (Ext.refl.off hB).toP M1
  have hψ : ∀ b ∈ B :: ψ, b ∈ ψ ∨ H1 b = none := fun b z => by
    rcases List.mem_cons.mp z with z | z
    · exact .inr (by rw [z]; exact hB)
    · exact .inl z
  have g2 : Clo B (fun φ H => Ext φ1 H1 φ H ∧ ExtP ψ φ1 H1 φ H) := (Clo.ext hB).and (Clo.extP (.inr hB))
  let st : Nat → List D → List Addr → Hp → Mem → Prop := fun i acc φ H m => Mk0 K ψ B (fun φ H => Ext φ1 H1 φ H ∧ ExtP ψ φ1 H1 φ H) (wipeD ρ own) (wipe σ own) (wipeD ρ own) (wipe σ own) acc φ H m ∧
    PoE ⟨K, ψ⟩ φ1 H1 Q ((compL (compTurn2 t it1 own1 t1 tt1 e c (wipeD ρ own)) src items (items.drop i) m).bind fun y => mkL al (acc ++ y.1) y.2)
  refine ⟨fun i n H => n = items.length - i ∧ i ≤ items.length ∧ ∃ acc φ m, st i acc φ H m, ⟨_, rfl, Nat.zero_le _, [], φ1, m1, ⟨⟨Ext.refl.off hB, x0⟩, M1.begun hB (.inl ⟨_, upd_same⟩), fr2.wipe own, fr2.wipe own, [], upd_same, rfl⟩, p1⟩, ?_⟩
  rintro i n H ⟨rfl, hi, acc, φ, m, S, p⟩
  by_cases hst : standsB src items m = true
  · have wki := wk (B :: ψ) φ H m hψ S.ok.2 S.mem hst i
    by_cases hlt : i < items.length
    · refine .inr ?_
      rw [List.drop_eq_getElem_cons hlt, compL_cons hst] at p
      obtain ⟨go, yl⟩ := wki.1 items[i] (List.getElem?_eq_getElem hlt)
      refine ⟨go, fun H' => ∃ acc φ m, st (i + 1) acc φ H' m, fun H' ⟨acc, φ, m, h⟩ => ⟨items.length - (i + 1), by omega, rfl, hlt, acc, φ, m, h⟩, fun x H' hy => ?_⟩
      obtain ⟨x2, M2, rx⟩ := yl x H' hy
      have S2 := S.later g2 x2 M2
      unfold compTurn2 at p
      split at p
      · rename_i ρ' hρ
        have key := tgt_wipe (ws := own) hs (tgt_ok (κ := ⟨K, B :: ψ⟩) (Q := fun σ2 H2' => H2' = H' ∧ FrR ⟨K, B :: ψ⟩ φ H' ρ' σ2) hρ rx S2.fr fun σ' f => ⟨rfl, f⟩)
        have key2 : gT K t x (wipe σ own) H' fun σ2 H2' => wipe σ2 own = wipe σ own ∧ H2' = H' ∧ FrR ⟨K, B :: ψ⟩ φ H' ρ' σ2 := by
          rw [wipe_wipe own own fun i hi => hi] at key
          exact key
        refine gT_mono (fun σ2 H2' hq => ?_) key2
        obtain ⟨hw, rfl, f2⟩ := hq
        refine ⟨hw, ?_⟩
        unfold tYes
        show ite (true = true) _ _
        rw [if_pos rfl]
        refine ⟨B :: ψ, φ, ρ', m, f2, M2, ?_⟩
        show Po _ _ _ _ _ (it1 c ρ' m)
        cases ht : it1 c ρ' m with
        | ok b =>
          rw [ht] at p
          intro J1 φ4 H4 x4 M4 wk1
          have S4 := S2.later g2 x4 M4
          have f4 := f2.ext M2 x4
          refine loop_ok (B := B) (ψ := ψ) (G := fun φ H => Ext φ1 H1 φ H ∧ ExtP ψ φ1 H1 φ H) (k := fun acc m => (compL (compTurn2 t it1 own1 t1 tt1 e c (wipeD ρ own)) src items (items.drop (i + 1)) m).bind fun y => mkL al (acc ++ y.1) y.2) (ρo := wipeD ρ own) (σo := wipe σ own) (acc0 := acc) (φ0 := φ4) (H0 := H4) (ψ0 := B :: ψ) (φ1 := φ1) (H1 := H1) g2 hs1 (short_comp (short_mk al)) wk1 (fun b z => .inl z) (fun acc φ H m S p => ?_) (Ext.refl.toP M4) ⟨S4.ok, M4, f4.wipe own1, S4.fr, S4.at_⟩ p
          exact ⟨acc, φ, m, ⟨S.ok, S.mem, S.fro, S.fro, S.at_⟩, p⟩
        | exc _ _ _ =>
          rw [ht] at p
          exact p.elim
        | bad =>
          rw [ht] at p
          exact p.elim
      · exact p.elim
    · have hle : items.length ≤ i := Nat.le_of_not_lt hlt
      refine .inl ⟨wki.2 (List.getElem?_eq_none hle), ?_⟩
      rw [List.drop_eq_nil_of_le hle, compL, if_pos hst, R.bind_ok, List.append_nil] at p
      exact Mk0.done hB M1 (fun _ _ x => x.1) S p
  · have hbad : ∀ ds, compL (compTurn2 t it1 own1 t1 tt1 e c (wipeD ρ own)) src items ds m = .bad := fun ds => by
      cases ds <;> rw [compL, if_neg hst]
    rw [hbad] at p
    exact p.elim
end
end Fp

set_option maxHeartbeats 4000000
/-! Fp9: displays of dicts, statements -/
namespace Fp
open PySem PySem.Spec PyProof.Rows L2 RZ

/-! ### augmented operators, items by getItem -/
/-- x += y -/
def opIAdd (d e : D) (m : Mem) : RD :=
  match d, e with
  | .int i, .int j => .ok (.int (i + j), m)
  | .str x, .str y => if x.length + y.length ≤ LIM then .ok (.str (x ++ y), m) else .bad
  | _, _ => .bad
def opISub (d e : D) (m : Mem) : RD :=
  match d, e with
  | .int i, .int j => .ok (.int (i - j), m)
  | _, _ => .bad
section
variable {X : Cx} {ψ : List Addr}
theorem pp_add : PIp X .Add (rD (kk X ψ) opIAdd) := by
  intro pins s σ H x y v u Q I rx ry ⟨φ, m, dx, dy, M, r1, r2, p⟩
  unfold opIAdd at p
  split at p
  · obtain rfl : x = .int _ := r1
    obtain rfl : y = .int _ := r2
    exact ip_add pins s σ H _ _ v u Q I rx ry ⟨_, _, rfl, rfl, p.same M rfl⟩
  · split at p
    · rename_i hl
      obtain rfl : x = .str _ := r1
      obtain rfl : y = .str _ := r2
      exact iop_add_str pins s σ H _ _ v u Q I rx ry ⟨_, _, rfl, rfl, by rw [← LIM_eq]; exact hl, p.same M rfl⟩
    · exact p.elim
  · exact p.elim
theorem pp_sub : PIp X .Sub (rD (kk X ψ) opISub) := by
  intro pins s σ H x y v u Q I rx ry ⟨φ, m, dx, dy, M, r1, r2, p⟩
  unfold opISub at p
  split at p
  · obtain rfl : x = .int _ := r1
    obtain rfl : y = .int _ := r2
    exact ip_sub pins s σ H _ _ v u Q I rx ry ⟨_, _, rfl, rfl, p.same M rfl⟩
  · exact p.elim
theorem pg_get (hu : X.A.units + 1 < cLine) : PGet X (rD (kk X ψ) opGet) := by
  intro pins s σ H x y v u Q I rx ry ⟨φ, m, dx, dy, M, r1, r2, p⟩
  unfold opGet at p
  split at p
  · rename_i ds hd
    split at p
    · rename_i i
      split at p
      · rename_i d he
        obtain ⟨a, vs, rfl, hq, q2⟩ := listD_rep hd M r1
        obtain ⟨z, e, q⟩ := atI_rep q2 he
        obtain rfl : y = .int i := r2
        cases rx
        obtain ⟨t, rfl⟩ := ry
        obtain ⟨its, r, pl, hz⟩ := I.list (SqL.of hq)
        obtain ⟨j, h1, h2, h3, h4, h5⟩ := atI_get e
        obtain ⟨w, ew, rw'⟩ := r.get h2
        have hl := r.length
        have hn := line63
        have fin : EP X pins σ Q w s := ⟨z, H, I, rw', p.same M q⟩
        by_cases h0 : 0 ≤ i
        · have hj : i.toNat = j := by
            rw [seqIndex_of h0 h5] at h1
            exact Option.some.inj h1
          exact wpAny_getItem_list pl.isList h0 (by omega) (by rw [hj]; simpa using ew) fin
        · have hj : (i + (its.toArray.size : Int)).toNat = j := by
            rw [seqIndex_neg (by omega) h4] at h1
            rw [List.size_toArray, ← hl]
            exact Option.some.inj h1
          exact wpAny_getItem_list_neg pl.isList (by omega) (by rw [List.size_toArray] <;> omega) (by omega) (by rw [hj]; simpa using ew) fin
      · exact p.elim
    · exact p.elim
  · split at p
    · rename_i kvs hd
      split at p
      · rename_i k hk
        split at p
        · rename_i d he
          obtain ⟨a, us, rfl, h1, kr⟩ := dictD_rep hd M r1
          obtain rfl : y = kV k := keyD_rep hk r2
          have z := kr.get (k := k)
          rw [he] at z
          obtain ⟨w, hw, q⟩ := z
          have g : DGet H a (kV k) (some w) := by
            rw [← hw]
            exact DGet.k h1
          cases rx
          exact d_getItem hu I g ry fun w' s1 I1 rw' => ⟨w, H, I1, rw', p.same M q⟩
        · exact p.elim
      · exact p.elim
    · exact p.elim
end

/-! ### {k: v, ..} -/
def trsD (K : PySem.W.Frag) (c : Cxt) (ps : List (SE × SE)) : List (TE × TE) := ps.map fun p => (exE K c p.1, exE K c p.2)
section
variable {K : PySem.W.Frag} {ψ : List Addr} {c : Cxt} {σ : L2.St} {H : Hp}
def kvV (us : List (Key × V)) : List (V × V) := us.map fun kv => (kV kv.1, kv.2)
theorem pairs_ok {κ : KK} : ∀ (ps : List (SE × SE)) {φ : List Addr} {H : Hp} {m : Mem} {ρ : EnvD} {Q : List (V × V) → Hp → Prop}, FrR κ φ H ρ σ → MRep κ φ H m → Po κ (fun φ H kvs vs => ∃ us, vs = kvV us ∧ KvR κ φ H kvs us) φ H Q (sPairs ps c ρ m) → tPairs (trsD κ.K c ps) σ H Q
  | [], φ, H, m, ρ, Q, fr, M, p => p [] φ H Ext.refl M ⟨[], rfl, KvR.nil⟩
  | (k, v) :: r, φ, H, m, ρ, Q, fr, M, p => by
    unfold sPairs at p
    refine ⟨κ.ps, φ, ρ, m, fr, M, (Po.bind (Rl := Rep κ) p).mono fun x H1 ⟨φ1, m1, d1, e1, M1, r1, p1⟩ => ?_⟩
    refine ⟨κ.ps, φ1, ρ, m1, fr.ext M e1, M1, (Po.bind (Rl := Rep κ) p1).mono fun y H2 ⟨φ2, m2, d2, e2, M2, r2, p2⟩ => ?_⟩
    have fr2 := (fr.ext M e1).ext M1 e2
    refine pairs_ok r fr2 M2 ((Po.bind (Rl := fun φ H kvs vs => ∃ us, vs = kvV us ∧ KvR κ φ H kvs us) p2).mono fun vs H3 ⟨φ3, m3, kvs, e3, M3, ⟨us, hus, kr⟩, p3⟩ => ?_)
    split at p3
    · rename_i k' hk
      refine p3 ((x, y) :: vs) φ3 H3 Ext.refl M3 ⟨(k', y) :: us, ?_, KvR.cons (Rep.ext M2 e3 _ _ r2) kr⟩
      rw [hus, keyD_rep hk r1]
      rfl
    · exact p3.elim
theorem t_disp {al : Bool} {ps : List (SE × SE)} {Q : VK} (h : tE ⟨K, ψ⟩ c (sDisp al ps) σ H Q) : tDisp (trsD K c ps) σ H Q := by
  obtain ⟨φ, ρ, m, fr, M, p⟩ := h
  intro B hB
  have M1 : MRep ⟨K, B :: ψ⟩ φ (upd H B (.dK [])) m := M.begun hB (.inr ⟨_, upd_same⟩)
  have fr1 : FrR ⟨K, B :: ψ⟩ φ (upd H B (.dK [])) ρ σ := fr.begun hB
  have hψ : B ∉ ψ := fun z => (M.res B z).1.some hB
  unfold sDisp at p
  split at p
  · rename_i h15
    refine pairs_ok (κ := ⟨K, B :: ψ⟩) ps fr1 M1 ?_
    show Po _ _ _ _ _ (sPairs ps c ρ m)
    have hlen : ∀ (ps : List (SE × SE)) (m : Mem) x, sPairs ps c ρ m = .ok x → x.1.length = ps.length := by
      intro ps
      induction ps with
      | nil => intro m x e; cases e; rfl
      | cons q r ih =>
        intro m x e
        obtain ⟨k, v⟩ := q
        unfold sPairs at e
        cases e1 : k c ρ m with
        | ok a =>
          rw [e1, R.bind_ok] at e
          cases e2 : v c ρ a.2 with
          | ok b =>
            rw [e2, R.bind_ok] at e
            cases e3 : sPairs r c ρ b.2 with
            | ok z =>
              rw [e3, R.bind_ok] at e
              have hz := ih _ _ e3
              split at e
              · cases e
                rw [List.length_cons, hz, List.length_cons]
              · cases e
            | exc _ _ _ => rw [e3] at e; cases e
            | bad => rw [e3] at e; cases e
          | exc _ _ _ => rw [e2] at e; cases e
          | bad => rw [e2] at e; cases e
        | exc _ _ _ => rw [e1] at e; cases e
        | bad => rw [e1] at e; cases e
    cases hp : sPairs ps c ρ m with
    | ok x =>
      rw [hp] at p
      intro vs φ2 H2 x2 M2 ⟨us, hus, kr⟩
      have hB2 : H2 B = some (.dK []) := x2.keep B _ upd_same (M1.res B List.mem_cons_self).2
      have hBps : B ∈ (⟨K, B :: ψ⟩ : KK).ps := List.mem_cons_self
      have hmk : Making H2 B := .inr ⟨_, hB2⟩
      refine ⟨hB2, us, hus, ?_, ?_⟩
      · rw [← kr.len, hlen _ _ _ hp]
        exact h15
      have p : PoE ⟨K, ψ⟩ φ H Q (mkD al (dMerge [] x.1) x.2) := p
      have kr2 : KvR ⟨K, B :: ψ⟩ φ2 (upd H2 B (.dK (mergeK [] us))) (dMerge [] x.1) (mergeK [] us) := by
        have k0 := KvR.merge kr KvR.nil
        exact ⟨k0.keys, Reps.grown hBps hmk M2 _ _ k0.vals⟩
      have M3 : MRep ⟨K, B :: ψ⟩ φ2 (upd H2 B (.dK (mergeK [] us))) x.2 := M2.grown hBps hmk (.inr ⟨_, upd_same⟩)
      have hx : Ext φ H φ2 (upd H2 B (.dK (mergeK [] us))) := by
        refine ⟨x2.pre, fun a o e n => ?_, fun a z n => ?_⟩
        · have hne := ne_of_none e hB
          rw [upd_ne hne]
          exact x2.keep a o (by rw [upd_ne hne]; exact e) n
        · have q := x2.new a z n
          by_cases e : a = B
          · rw [e]
            exact hB
          · rw [upd_ne e] at q
            exact q
      have hres := M3.res B hBps
      unfold mkD at p
      split at p
      · cases al with
        | false =>
          refine p (.ref B) φ2 _ hx M3.less ⟨B, (mergeK [] us).map (·.2), rfl, ?_, ⟨hres.2, hψ⟩, ?_, Reps.less _ _ kr2.vals⟩
          · rw [upd_same, ← kr2.unzip]
          · rw [List.length_map, List.length_map, kr2.len]
        | true =>
          refine p (.ref B) (φ2 ++ [B]) _ ⟨hx.pre.trans (pre_snoc φ2 B), hx.keep, fun a z n => ?_⟩ (M3.known hψ (ob := .dct (dMerge [] x.1)) (RepO.dct upd_same kr2)) ⟨B, rfl, ?_⟩
          · rcases List.mem_append.mp z with z | z
            · exact hx.new a z n
            · rw [List.mem_singleton.mp z]
              exact hB
          · rw [← M2.len, List.getElem?_append_right (Nat.le_refl _), Nat.sub_self]
            rfl
      · exact p.elim
    | exc _ _ _ => rw [hp] at p; exact p.elim
    | bad => rw [hp] at p; exact p.elim
  · exact p.elim
end

/-! ### statements -/
section
variable {κ : KK} {c : Cxt} {σ : L2.St} {H : Hp} {E : Ends}
theorem t_nx (h : tS κ c ssNil E σ H) : tNext E σ H := by
  obtain ⟨φ, ρ, m, fr, M, p⟩ := h
  exact p φ H Ext.refl M σ fr
theorem t_brk (h : tS κ c ssBrk E σ H) : tBreak E σ H := by
  obtain ⟨φ, ρ, m, fr, M, p⟩ := h
  exact p φ H Ext.refl M σ fr
theorem t_cnt (h : tS κ c ssCnt E σ H) : tCont E σ H := by
  obtain ⟨φ, ρ, m, fr, M, p⟩ := h
  exact p φ H Ext.refl M σ fr
theorem t_seqS {a b : SS} (h : tS κ c (ssCons a b) E σ H) : tSeq (tS κ c a) (tS κ c b) E σ H := by
  obtain ⟨φ, ρ, m, fr, M, p⟩ := h
  refine ⟨φ, ρ, m, fr, M, (PoS.bind p).mono ?_ ?_ ?_ ?_⟩
  · rintro σ1 H1 ⟨φ1, m1, ρ1, e, M1, f1, p1⟩
    exact ⟨φ1, ρ1, m1, f1, M1, p1⟩
  · rintro σ1 H1 ⟨φ1, m1, ρ1, e, M1, f1, p1⟩
    exact p1 φ1 H1 Ext.refl M1 σ1 f1
  · rintro σ1 H1 ⟨φ1, m1, ρ1, e, M1, f1, p1⟩
    exact p1 φ1 H1 Ext.refl M1 σ1 f1
  · rintro v H1 ⟨φ1, m1, d, e, M1, r1, p1⟩
    exact p1 φ1 H1 Ext.refl M1 v r1
theorem t_ret {a : SE} (h : tS κ c (ssRet a) E σ H) : tRet (tE κ c a) E σ H := by
  obtain ⟨φ, ρ, m, fr, M, p⟩ := h
  refine ⟨φ, ρ, m, fr, M, (PoS.ofE (Rl := Rep κ) p).mono fun x H1 ⟨φ1, m1, d1, e1, M1, r1, p1⟩ => ?_⟩
  exact p1 φ1 H1 Ext.refl M1 x r1
theorem t_retN (h : tS κ c ssRetN E σ H) : tRetN E σ H := by
  obtain ⟨φ, ρ, m, fr, M, p⟩ := h
  exact p φ H Ext.refl M .non rfl
theorem t_expr {a : SE} (h : tS κ c (ssExpr a) E σ H) : tDrop (tE κ c a) E σ H := by
  obtain ⟨φ, ρ, m, fr, M, p⟩ := h
  refine ⟨φ, ρ, m, fr, M, (PoS.ofE (Rl := Rep κ) p).mono fun x H1 ⟨φ1, m1, d1, e1, M1, r1, p1⟩ => ?_⟩
  exact p1 φ1 H1 Ext.refl M1 σ (fr.ext M e1)
theorem t_set {t : Tgt} {a : SE} (h : tS κ c (ssSet t a) E σ H) : tAsg (tE κ c a) (gT κ.K t) E σ H := by
  obtain ⟨φ, ρ, m, fr, M, p⟩ := h
  refine ⟨φ, ρ, m, fr, M, (PoS.ofE (Rl := Rep κ) p).mono fun x H1 ⟨φ1, m1, d1, e1, M1, r1, p1⟩ => ?_⟩
  split at p1
  · rename_i ρ' hρ
    exact tgt_ok hρ r1 (fr.ext M e1) fun σ' f' => p1 φ1 H1 Ext.refl M1 σ' f'
  · exact p1.elim
theorem t_par {i j : Nat} {A : SA} (h : tS κ c (ssPar [i, j] A) E σ H) : tPar i j (tA κ c A) E σ H := by
  obtain ⟨φ, ρ, m, fr, M, p⟩ := h
  refine ⟨φ, ρ, m, fr, M, (PoS.ofE (Rl := Reps κ) p).mono fun x H1 ⟨φ1, m1, d1, e1, M1, r1, p1⟩ => ?_⟩
  split at p1
  · rename_i hl
    match d1, hl, r1, p1 with
    | [d, e], hl, r1, p1 =>
      obtain ⟨v1, v2, rfl, q1, q2⟩ := r1.two
      exact ⟨v1, v2, rfl, p1 φ1 H1 Ext.refl M1 _ (((fr.ext M e1).set q1).set q2)⟩
  · exact p1.elim
theorem t_par3 {i j k : Nat} {A : SA} (h : tS κ c (ssPar [i, j, k] A) E σ H) : tPar3 i j k (tA κ c A) E σ H := by
  obtain ⟨φ, ρ, m, fr, M, p⟩ := h
  refine ⟨φ, ρ, m, fr, M, (PoS.ofE (Rl := Reps κ) p).mono fun x H1 ⟨φ1, m1, d1, e1, M1, r1, p1⟩ => ?_⟩
  split at p1
  · rename_i hl
    match d1, hl, r1, p1 with
    | [d, e, f], hl, r1, p1 =>
      obtain ⟨v1, r, rfl, q1, r⟩ := r1
      obtain ⟨v2, v3, rfl, q2, q3⟩ := Reps.two r
      exact ⟨v1, v2, v3, rfl, p1 φ1 H1 Ext.refl M1 _ ((((fr.ext M e1).set q1).set q2).set q3)⟩
  · exact p1.elim
theorem t_if {t : ST} {a b : SS} (h : tS κ c (ssIf t a b) E σ H) : tIfS (tT κ c t) (tS κ c a) (tS κ c b) E σ H := by
  obtain ⟨φ, ρ, m, fr, M, p⟩ := h
  refine ⟨φ, ρ, m, fr, M, (PoS.ofE (Rl := fun _ _ a b => a = b) p).mono fun x H1 ⟨φ1, m1, d1, e1, M1, r1, p1⟩ => ?_⟩
  subst r1
  cases d1 with
  | true => rw [if_pos rfl]; exact ⟨φ1, ρ, m1, fr.ext M e1, M1, p1⟩
  | false => rw [if_neg Bool.false_ne_true]; exact ⟨φ1, ρ, m1, fr.ext M e1, M1, p1⟩
theorem t_aug {i : Nat} {f : D → D → Mem → RD} {a : SE} (h : tS κ c (ssAug i f a) E σ H) : tAug i (tE κ c a) (rD κ f) E σ H := by
  obtain ⟨φ, ρ, m, fr, M, p⟩ := h
  unfold ssAug at p
  split at p
  · rename_i d hd
    obtain ⟨v, hv, rv⟩ := fr.2 i d hd
    refine ⟨v, hv, φ, ρ, m, fr, M, (PoS.ofE (Rl := Rep κ) p).mono fun x H1 ⟨φ1, m1, d1, e1, M1, r1, p1⟩ => ?_⟩
    refine ⟨φ1, m1, d, d1, M1, Rep.ext M e1 _ _ rv, r1, (PoS.ofE (Rl := Rep κ) p1).mono fun z H2 ⟨φ2, m2, d2, e2, M2, r2, p2⟩ => ?_⟩
    exact p2 φ2 H2 Ext.refl M2 _ (((fr.ext M e1).ext M1 e2).set r2)
  · exact p.elim
theorem t_put {o i v : SE} (h : tS κ c (ssPut o i v) E σ H) : tAsg (tE κ c v) (gSub (tE κ c o) (tE κ c i) (rPut κ)) E σ H := by
  obtain ⟨φ, ρ, m, fr, M, p⟩ := h
  refine ⟨φ, ρ, m, fr, M, (PoS.ofE (Rl := Rep κ) p).mono fun x H1 ⟨φ1, m1, d1, e1, M1, r1, p1⟩ => ?_⟩
  have f1 := fr.ext M e1
  refine ⟨φ1, ρ, m1, f1, M1, (PoS.ofE (Rl := Rep κ) p1).mono fun y H2 ⟨φ2, m2, d2, e2, M2, r2, p2⟩ => ?_⟩
  have f2 := f1.ext M1 e2
  refine ⟨φ2, ρ, m2, f2, M2, (PoS.ofE (Rl := Rep κ) p2).mono fun z H3 ⟨φ3, m3, d3, e3, M3, r3, p3⟩ => ?_⟩
  have f3 := f2.ext M2 e3
  refine ⟨φ3, m3, d2, d3, d1, M3, Rep.ext M2 e3 _ _ r2, r3, Rep.ext M2 e3 _ _ (Rep.ext M1 e2 _ _ r1), ?_⟩
  dsimp only at p3
  cases hp : putIx d2 d3 d1 m3 with
  | ok m' =>
    rw [hp] at p3
    intro φ4 H4 e4 M4
    exact p3 φ4 H4 e4 M4 σ (f3.ext M3 e4)
  | exc _ _ _ => rw [hp] at p3; exact p3.elim
  | bad => rw [hp] at p3; exact p3.elim
theorem t_augS {o i v : SE} {f : D → D → Mem → RD} (h : tS κ c (ssAugIx o i f v) E σ H) : tAugS (tE κ c o) (tE κ c i) (tE κ c v) (rD κ opGet) (rD κ f) (rPut κ) E σ H := by
  obtain ⟨φ, ρ, m, fr, M, p⟩ := h
  refine ⟨φ, ρ, m, fr, M, (PoS.ofE (Rl := Rep κ) p).mono fun x H1 ⟨φ1, m1, d1, e1, M1, r1, p1⟩ => ?_⟩
  have f1 := fr.ext M e1
  refine ⟨φ1, ρ, m1, f1, M1, (PoS.ofE (Rl := Rep κ) p1).mono fun y H2 ⟨φ2, m2, d2, e2, M2, r2, p2⟩ => ?_⟩
  have f2 := f1.ext M1 e2
  have r1' := Rep.ext M1 e2 _ _ r1
  refine ⟨φ2, m2, d1, d2, M2, r1', r2, (PoS.ofE (Rl := Rep κ) p2).mono fun w H3 ⟨φ3, m3, d3, e3, M3, r3, p3⟩ => ?_⟩
  have f3 := f2.ext M2 e3
  have r1' := Rep.ext M2 e3 _ _ r1'
  have r2 := Rep.ext M2 e3 _ _ r2
  refine ⟨φ3, ρ, m3, f3, M3, (PoS.ofE (Rl := Rep κ) p3).mono fun z H4 ⟨φ4, m4, d4, e4, M4, r4, p4⟩ => ?_⟩
  have f4 := f3.ext M3 e4
  have r1' := Rep.ext M3 e4 _ _ r1'
  have r2 := Rep.ext M3 e4 _ _ r2
  have r3 := Rep.ext M3 e4 _ _ r3
  refine ⟨φ4, m4, d3, d4, M4, r3, r4, (PoS.ofE (Rl := Rep κ) p4).mono fun u H5 ⟨φ5, m5, d5, e5, M5, r5, p5⟩ => ?_⟩
  have f5 := f4.ext M4 e5
  have r1' := Rep.ext M4 e5 _ _ r1'
  have r2 := Rep.ext M4 e5 _ _ r2
  refine ⟨φ5, m5, d1, d2, d5, M5, r1', r2, r5, ?_⟩
  dsimp only at p5
  cases hp : putIx d1 d2 d5 m5 with
  | ok m' =>
    rw [hp] at p5
    intro φ6 H6 e6 M6
    exact p5 φ6 H6 e6 M6 σ (f5.ext M5 e6)
  | exc _ _ _ => rw [hp] at p5; exact p5.elim
  | bad => rw [hp] at p5; exact p5.elim
theorem t_while {t : ST} {b : SS} (h : tS κ c (ssWhile t b) E σ H) : tWhile (tT κ c t) (tS κ c b) E σ H := by
  obtain ⟨φ, ρ, m, fr, M, p⟩ := h
  refine ⟨fun n σ H => St0 κ σ H fun φ ρ m => PoS κ φ H E (whileL t b c n ρ m), ⟨c.fuel, φ, ρ, m, fr, M, p⟩, ?_⟩
  rintro n σ H ⟨φ, ρ, m, fr, M, p⟩
  cases n with
  | zero => exact p.elim
  | succ n =>
    rw [whileL] at p
    refine ⟨φ, ρ, m, fr, M, (PoS.ofE (Rl := fun _ _ a b => a = b) p).mono fun x H1 ⟨φ1, m1, d1, e1, M1, r1, p1⟩ => ?_⟩
    subst r1
    cases d1 with
    | false =>
      rw [if_neg Bool.false_ne_true]
      exact p1 φ1 H1 Ext.refl M1 σ (fr.ext M e1)
    | true =>
      rw [if_pos rfl]
      refine ⟨fun σ H => St0 κ σ H fun φ ρ m => PoS κ φ H E (whileL t b c n ρ m), fun σ' H' q => ⟨n, by omega, q⟩, φ1, ρ, m1, fr.ext M e1, M1, (PoS.bind p1).mono ?_ ?_ ?_ ?_⟩
      · rintro σ2 H2 ⟨φ2, m2, ρ2, e2, M2, f2, p2⟩
        exact ⟨φ2, ρ2, m2, f2, M2, p2⟩
      · rintro σ2 H2 ⟨φ2, m2, ρ2, e2, M2, f2, p2⟩
        exact p2 φ2 H2 Ext.refl M2 σ2 f2
      · rintro σ2 H2 ⟨φ2, m2, ρ2, e2, M2, f2, p2⟩
        exact ⟨φ2, ρ2, m2, f2, M2, p2⟩
      · rintro v H2 ⟨φ2, m2, d, e2, M2, r2, p2⟩
        exact p2 φ2 H2 Ext.refl M2 v r2
theorem t_for {it : SI} {t : Tgt} {b : SS} (h : tS κ c (ssFor it t b) E σ H) : tFor (tI κ c it) (gT κ.K t) (tS κ c b) E σ H := by
  obtain ⟨φ, ρ, m, fr, M, p⟩ := h
  refine ⟨φ, ρ, m, fr, M, (PoS.ofE (Rl := fun φ' H' a J => Walks κ J a.1 a.2 φ' H') p).mono fun J H1 ⟨φ1, m1, a, e1, M1, wk, p1⟩ => ?_⟩
  obtain ⟨items, src⟩ := a
  let st : Nat → L2.St → Hp → Prop := fun i σ H => ∃ φ ρ m, FrR κ φ H ρ σ ∧ MRep κ φ H m ∧ ExtP κ.ps φ1 H1 φ H ∧ PoS κ φ H E (forL t b c src items (items.drop i) ρ m)
  refine ⟨fun i n σ H => n = items.length - i ∧ i ≤ items.length ∧ st i σ H, ⟨_, rfl, Nat.zero_le _, φ1, ρ, m1, fr.ext M e1, M1, Ext.refl.toP M1, p1⟩, ?_⟩
  rintro i n σ H ⟨rfl, hi, φ, ρ, m, fr, M, x, p⟩
  by_cases hst : standsB src items m = true
  · have wki := wk κ.ps φ H m (fun a z => .inl z) x M hst i
    by_cases hlt : i < items.length
    · refine .inr ?_
      rw [List.drop_eq_getElem_cons hlt, forL, if_pos hst] at p
      obtain ⟨go, yl⟩ := wki.1 items[i] (List.getElem?_eq_getElem hlt)
      refine ⟨go, fun σ' H' => st (i + 1) σ' H', fun σ' H' h => ⟨items.length - (i + 1), by omega, rfl, hlt, h⟩, fun v H' hy => ?_⟩
      obtain ⟨x2, M2, rx⟩ := yl v H' hy
      have x' : ExtP κ.ps φ1 H1 φ H' := x.later x2
      split at p
      · rename_i ρ' hρ
        refine tgt_ok (κ := κ) hρ rx (fr.ext M x2) fun σ' f' => ⟨φ, ρ', m, f', M2, ?_⟩
        refine (PoS.bind (PoS.ext p x2)).mono ?_ ?_ ?_ ?_
        · rintro σ2 H2 ⟨φ2, m2, ρ2, e2, M2, f2, p2⟩
          exact ⟨φ2, ρ2, m2, f2, M2, x'.later e2, p2⟩
        · rintro σ2 H2 ⟨φ2, m2, ρ2, e2, M2, f2, p2⟩
          exact p2 φ2 H2 Ext.refl M2 σ2 f2
        · rintro σ2 H2 ⟨φ2, m2, ρ2, e2, M2, f2, p2⟩
          exact ⟨φ2, ρ2, m2, f2, M2, x'.later e2, p2⟩
        · rintro v H2 ⟨φ2, m2, d, e2, M2, r2, p2⟩
          exact p2 φ2 H2 Ext.refl M2 v r2
      · exact p.elim
    · have hle : items.length ≤ i := Nat.le_of_not_lt hlt
      refine .inl ⟨wki.2 (List.getElem?_eq_none hle), ?_⟩
      rw [List.drop_eq_nil_of_le hle, forL, if_pos hst] at p
      exact p φ H Ext.refl M σ fr
  · have hbad : ∀ ds, forL t b c src items ds ρ m = .bad := fun ds => by
      cases ds <;> rw [forL, if_neg hst]
    rw [hbad] at p
    exact p.elim
end
end Fp

set_option maxHeartbeats 4000000
/-! Fs1: sets of texts, any number of them below the scan's bound -/
namespace Fp
open PySem PySem.Spec PyProof.Rows L2
/-- the text of an entry -/
def kS (e : Int × Value) : Str := match e.2 with
  | .str k _ => k
  | _ => Str.empty
def EntS (w : World) (e : Int × Value) : Prop := ∃ k tk, e = (hashStr w k, Value.str k tk)
/-- at a stands a set whose members are L -/
structure TxSet (w : World) (h : Heap) (a : Addr) (L : List Str) : Prop where
  nd : L.Nodup
  few : L.length < scanBound
  ex : ∃ o es ep t, h.get? a = some o ∧ o.ExactSet ∧ o.data = .set es ep t ∧ (∀ e ∈ es.toList, EntS w e) ∧ (es.toList.map kS).Perm L ∧ t.fits es.size = true ∧ Ris t.place.toList ∧ (w.params.followText "set-order" = true ∨ t.led = true)
/-- a set that is made -/
abbrev nset (w : World) : Obj := { cls := .type "set", dict := none, data := .set #[] 0 (.fresh 0 0 (!w.params.followText "set-order")) }
section
variable {P : Program} {w : World} {A : Around} {E : Value → Shared → Prop} {s : Shared} {a : Addr} {L : List Str}
theorem TxSet.new {h : Heap} (e : h.get? a = some (nset w)) : TxSet w h a [] := by
  refine ⟨List.nodup_nil, by decide, _, #[], 0, _, e, ⟨rfl, rfl, rfl⟩, rfl, fun e he => ?_, ?_, rfl, List.Pairwise.nil, ?_⟩
  · simp at he
  · exact List.Perm.refl _
  · show _ ∨ (!w.params.followText "set-order") = true
    cases w.params.followText "set-order" <;> simp
theorem TxSet.keep {h h' : Heap} (R : TxSet w h a L) (k : ∀ o, h.get? a = some o → h'.get? a = some o) : TxSet w h' a L := by
  obtain ⟨o, es, ep, t, q, r⟩ := R.ex
  exact ⟨R.nd, R.few, o, es, ep, t, k o q, r⟩
theorem EntS.elems {l : List (Int × Value)} (g : ∀ e ∈ l, EntS w e) : ElemsOf (strKind P w) l := by
  intro e he
  obtain ⟨k, tk, rfl⟩ := g e he
  exact ⟨⟨k, strKind_is P w k tk, rfl⟩, rfl⟩
theorem EntS.is {e : Int × Value} (g : EntS w e) (k : Str) : (strKind P w).is k e.2 = true ↔ kS e = k := by
  obtain ⟨k0, tk, rfl⟩ := g
  show Value.isStrOf k (.str k0 tk) = true ↔ k0 = k
  rw [Value.isStrOf]
  exact beq_iff_eq
theorem EntS.mem {l : List (Int × Value)} (g : ∀ e ∈ l, EntS w e) (k : Str) : k ∈ l.map kS ↔ ∃ e ∈ l, (strKind P w).is k e.2 = true := by
  simp only [List.mem_map]
  exact ⟨fun ⟨e, he, q⟩ => ⟨e, he, (EntS.is (g e he) k).mpr q⟩, fun ⟨e, he, q⟩ => ⟨e, he, (EntS.is (g e he) k).mp q⟩⟩
theorem txStore {g : Bool → Sem Unit} (hg : ∀ (b : Bool) (s1 : Shared) (Q1 : Unit → Shared → Prop), Q1 () s1 → wpAny (model P w) A (g b) Q1 E s1) {o : Obj} {es es1 : Array (Int × Value)} {ep : Nat} {t t2 : SetTable} {L2 : List Str}
    (q : s.heap.get? a = some o) (x : o.ExactSet) (d : o.data = .set es ep t) (nd : L2.Nodup) (few : L2.length < scanBound) (en : ∀ e ∈ es1.toList, EntS w e) (pm : (es1.toList.map kS).Perm L2) (ft : t2.fits es1.size = true) (ri : Ris t2.place.toList)
    (ld : w.params.followText "set-order" = true ∨ t2.led = true) {was : Bool} {R : Option Bool → Shared → Prop} (fin : ∀ h2, Heap.SameBut a s.heap h2 → TxSet w h2 a L2 → R (some true) { s with heap := h2 }) :
    wpAny (model P w) A (do
      storeSet a es1 t2
      if (!was && t2.tooFull) = true then do
          g (relayAll t2 es1 (SetTable.grown es1.size)).2.2
          storeSet a (relayAll t2 es1 (SetTable.grown es1.size)).1 (relayAll t2 es1 (SetTable.grown es1.size)).2.1
          pure (some true)
        else pure (some true)) R E s := by
  have z1 : es1.size < scanBound := by
    have := pm.length_eq
    rw [List.length_map, Array.length_toList] at this
    omega
  have q1 := store_at (es' := es1) (t' := t2) q d
  have sb := Heap.SameBut.update s.heap a (Obj.putSet es1 t2)
  refine wpAny_bind (wpAny_storeSet_of q d ?_ (fits_of_scanBound z1))
  split
  · have u1 := relayAll_perm t2 es1 (SetTable.grown es1.size)
    have u2 := relayAll_fits t2 es1 (SetTable.grown es1.size)
    have u3 := relayAll_ris t2 es1 (SetTable.grown es1.size)
    have u4 := relayAll_led t2 es1 (SetTable.grown es1.size)
    generalize relayAll t2 es1 (SetTable.grown es1.size) = Y at u1 u2 u3 u4 ⊢
    obtain ⟨es2, t3, gv⟩ := Y
    dsimp only at u1 u2 u3 u4 ⊢
    have z2 : es2.size < scanBound := by
      have := u1.length_eq
      rw [Array.length_toList, Array.length_toList] at this
      omega
    refine wpAny_bind (hg _ _ _ (wpAny_bind (wpAny_storeSet_of q1 rfl (wpAny_pure (fin _ (sb.trans (Heap.SameBut.update _ a _)) ?_)) (fits_of_scanBound z2))))
    refine ⟨nd, few, _, es2, _, t3, store_at (es' := es2) (t' := t3) q1 rfl, x, rfl, fun e he => en e (u1.mem_iff.mp he), (u1.map kS).trans pm, u2, u3, ?_⟩
    rcases ld with ld | ld
    · exact .inl ld
    · exact .inr (u4.trans ld)
  · exact wpAny_pure (fin _ sb ⟨nd, few, _, es1, _, t2, q1, x, rfl, en, pm, ft, ri, ld⟩)
theorem txAdd {k : Str} {tk : Tok} {Q : Bool → Shared → Prop} (R : TxSet w s.heap a L) (few : L.length + 1 < scanBound) (fin : ∀ b h2, Heap.SameBut a s.heap h2 → TxSet w h2 a (addS L k) → Q b { s with heap := h2, toks := s.toks + 1 }) :
    wpAny (model P w) A (setAdd a (.str k tk)) Q E s := by
  obtain ⟨o, es, ep, t, q, x, d, en, pm, ft, ri, ld⟩ := R.ex
  have key : (strKind P w).is k (.str k tk) = true := strKind_is P w k tk
  have sc : (Value.str k tk).scannable = true := rfl
  have el : ElemsOf (strKind P w) es.toList := EntS.elems en
  have z : es.size = L.length := by
    have := pm.length_eq
    rw [List.length_map, Array.length_toList] at this
    exact this
  have zb : es.size < scanBound := by omega
  unfold setAdd
  refine wpAny_holding (wpAny_bind ((strKind P w).pyHash key ?_))
  unfold setAddHashed setAddHashedIn
  refine wpAny_holding (wpAny_bind (wpAny_setState_of (s := { s with toks := s.toks + 1 }) q d ft ?_))
  dsimp only
  rw [byScan_of sc zb el]
  simp only [↓reduceIte]
  unfold setAddByScan
  refine wpAny_bind (wpAny_bind (wpAny_rule (wpAny_bind (wpAny_setScan_of (s := { s with toks := s.toks + 1 }) key q d ft el ?_))))
  cases fd : List.findIdx? (fun e => (strKind P w).is k e.2) es.toList with
  | some j =>
    obtain ⟨hj, pj, _⟩ := List.findIdx?_eq_some_iff_getElem.mp fd
    have hk : k ∈ L := pm.mem_iff.mp ((EntS.mem (P := P) en k).mpr ⟨_, List.getElem_mem hj, pj⟩)
    have e1 : addS L k = L := if_pos hk
    exact wpAny_pure (wpAny_pure (fin false s.heap (Heap.SameBut.refl a s.heap) (by rw [e1]; exact R)))
  | none =>
    have hk : k ∉ L := fun m => by
      obtain ⟨e, he, y⟩ := (EntS.mem (P := P) en k).mp (pm.mem_iff.mpr m)
      have c := List.findIdx?_eq_none_iff.mp fd e he
      rw [y] at c
      cases c
    have e1 : addS L k = L ++ [k] := if_neg hk
    rw [e1] at fin
    dsimp only
    have rl : ∀ (b : Bool) {s1 : Shared} {Q1 : Unit → Shared → Prop}, Q1 () s1 → wpAny (model P w) A (match b with | true => rule "set.scan.the-table-gave-way" | false => pure ()) Q1 E s1 := by
      intro b s1 Q1 y
      cases b
      · exact wpAny_pure y
      · exact wpAny_rule y
    have u1 := layNew_perm t es ((strKind P w).hash k) (.str k tk)
    have u2 := layNew_fits t es ((strKind P w).hash k) (.str k tk)
    have u3 := layNew_ris t es ((strKind P w).hash k) (.str k tk) ri
    have u4 := layNew_led t es ((strKind P w).hash k) (.str k tk)
    generalize layNew t es ((strKind P w).hash k) (.str k tk) = Y at u1 u2 u3 u4 ⊢
    obtain ⟨es1, t1, was, gv⟩ := Y
    dsimp only at u1 u2 u3 u4 ⊢
    rw [Array.toList_push] at u1
    have en1 : ∀ e ∈ es1.toList, EntS w e := fun e he => by
      rcases List.mem_append.mp (u1.mem_iff.mp he) with y | y
      · exact en e y
      · rw [List.mem_singleton.mp y]
        exact ⟨k, tk, rfl⟩
    have pm1 : (es1.toList.map kS).Perm (L ++ [k]) := by
      refine (u1.map kS).trans ?_
      rw [List.map_append]
      exact pm.append_right _
    have nd1 : (L ++ [k]).Nodup := by
      rw [List.nodup_append]
      refine ⟨R.nd, by simp, fun b hb c hc => ?_⟩
      rw [List.mem_singleton.mp hc]
      exact fun y => hk (y ▸ hb)
    have few1 : (L ++ [k]).length < scanBound := by
      rw [List.length_append, List.length_singleton]
      exact few
    have ld1 : w.params.followText "set-order" = true ∨ t1.led = true := by
      rcases ld with ld | ld
      · exact .inl ld
      · exact .inr (u4.trans ld)
    refine wpAny_bind (rl _ ?_)
    split
    · refine wpAny_bind ?_
      rw [hashByValue_scannable 8 sc]
      refine wpAny_pure (txStore (s := { s with toks := s.toks + 1 }) (L2 := L ++ [k]) ?_ q x d nd1 few1 en1 pm1 ?_ ?_ ?_ fun h2 sb r => ?_)
      · intro b s1 Q1 y
        cases b
        · exact wpAny_pure y
        · exact wpAny_rule y
      · first | (split <;> first | exact u2 | exact SetTable.fits_plain_off u2) | exact u2
      · first | (split <;> exact u3) | exact u3
      · first | (split <;> exact ld1) | exact ld1
      · dsimp only
        exact wpAny_pure (fin _ h2 sb r)
    · refine wpAny_bind (wpAny_pure ?_)
      simp only [↓reduceIte]
      refine txStore (s := { s with toks := s.toks + 1 }) (L2 := L ++ [k]) ?_ q x d nd1 few1 en1 pm1 u2 u3 ld1 fun h2 sb r => ?_
      · intro b s1 Q1 y
        cases b
        · exact wpAny_pure y
        · exact wpAny_rule y
      · dsimp only
        exact wpAny_pure (fin _ h2 sb r)
end
end Fp

set_option maxHeartbeats 4000000
/-! Fs2: set(xs) of texts; sorted(set(xs)), len(set(xs)) -/
namespace Fp
open PySem PySem.Spec PyProof.Rows L2
theorem addS_len (L : List Str) (k : Str) : (addS L k).length ≤ L.length + 1 := by
  unfold addS
  split
  · omega
  · rw [List.length_append, List.length_singleton]
    exact Nat.le_refl _
theorem fold_len : ∀ (xs L : List Str), (xs.foldl addS L).length ≤ L.length + xs.length
  | [], L => Nat.le_refl _
  | x :: xs, L => by
    have h1 := fold_len xs (addS L x)
    have h2 := addS_len L x
    rw [List.foldl_cons, List.length_cons]
    omega
section
variable {P : Program} {w : World} {A : Around} {E : Value → Shared → Prop} {s : Shared}
/-- the loop of an update -/
theorem txLoop {I : Addr} {fp wr : List Addr} {G : Array GenState → Array GenState → Prop} {n : Nat} {Pv : Nat → Value → Prop} {St : Nat → Shared → Prop} {R : Result → Shared → Prop} (W : WalksS P w A.in1 I fp wr G n Pv St) {S : Addr} (off : S ∉ fp) {xs : List Str} (hn : xs.length = n)
    (few : n + 1 < scanBound) (val : ∀ i v, Pv i v → ∃ t, v = .str (xs.getD i Str.empty) t) : ∀ (m i : Nat) (s : Shared), n - i = m → i ≤ n → St i s → TxSet w s.heap S (ddS (xs.take i)) →
    (∀ s2, Moved (S :: wr) G s s2 → TxSet w s2.heap S (ddS xs) → R (.ok (.ret .none)) s2) → codeAny (model P w) A (.builtin "set.update.loop" ⟨[.ref S, .ref I], []⟩) R s := by
  have offw : S ∉ wr := fun y => off (W.sub _ y)
  have wider : ∀ b ∈ wr, b ∈ S :: wr := fun b y => List.mem_cons_of_mem _ y
  intro m
  induction m with
  | zero =>
    intro i s hm hi st R0 fin
    obtain rfl : i = n := by omega
    rw [List.take_of_length_le (by omega)] at R0
    refine codeAny_builtin F.entry_set_update_loop ?_
    rw [Around.under_plainId F.plain_set_update_loop _]
    exact wpAny_bind (W.done s _ _ st fun s2 mv => wpAny_pure (fin s2 (mv.mono wider) (R0.keep fun o e => mv.heap S o offw e)))
  | succ m ih =>
    intro i s hm hi st R0 fin
    have hlt : i < n := by omega
    refine codeAny_builtin F.entry_set_update_loop ?_
    rw [Around.under_plainId F.plain_set_update_loop _]
    refine wpAny_bind (W.item i s _ _ hlt st fun v s1 pv st1 mv => ?_)
    obtain ⟨t, rfl⟩ := val i v pv
    have hx : xs[i]? = some (xs.getD i Str.empty) := by
      rw [List.getD_eq_getElem?_getD, List.getElem?_eq_getElem (by omega)]
      rfl
    have R1 : TxSet w s1.heap S (ddS (xs.take i)) := R0.keep fun o e => mv.heap S o offw e
    have room : (ddS (xs.take i)).length + 1 < scanBound := by
      have h1 := fold_len (xs.take i) []
      rw [List.length_take] at h1
      show (List.foldl addS [] (xs.take i)).length + 1 < scanBound
      simp only [List.length_nil] at h1
      omega
    refine wpAny_bind (wpAny_holding (txAdd R1 room fun b h2 sb R2 => ?_))
    have R3 : TxSet w h2 S (ddS (xs.take (i + 1))) := by
      have e : ddS (xs.take (i + 1)) = addS (ddS (xs.take i)) (xs.getD i Str.empty) := by
        unfold ddS
        rw [List.take_add_one, hx, Option.toList_some, List.foldl_append, List.foldl_cons, List.foldl_nil]
      rw [e]
      exact R2
    refine wpAny_pure ⟨plainId_quiet F.plain_set_update_loop _, ih (i + 1) _ (by omega) hlt (W.frame _ s1 _ _ st1 (Nat.le_succ _) fun b hb o e => ?_) R3 fun s2 mv2 R4 => ?_⟩
    · rw [sb.2 b fun y => off (y ▸ hb)]
      exact e
    · refine fin s2 (Moved.trans W.gtrans ((mv.mono wider).then_heap (Nat.le_succ _) fun b o hb e => ?_) mv2) R4
      rw [sb.2 b fun y => hb (by rw [y]; exact List.mem_cons_self)]
      exact e
/-- set(xs) of a list -/
theorem txMake {l : Addr} {its : Array Value} {xs : List Str} {Q : Value → Shared → Prop} (hd : A.handled = none) (il : s.heap.IsList l its) (sa : StrsAre its.toList xs) (few : xs.length + 1 < scanBound)
    (fin : ∀ h2 tk, TxSet w h2 s.heap.objs.size (ddS xs) → (∀ b o, s.heap.get? b = some o → h2.get? b = some o) → Q (.ref s.heap.objs.size) { s with heap := h2, toks := tk }) : wpAny (model P w) A (call (.type "set") [.ref l]) Q E s := by
  have zs : xs.length = its.size := by rw [← StrsAre.len_eq sa, Array.length_toList]
  obtain ⟨c, tl, hmro⟩ := F.called_set.mro
  have f1 := F.called_set.made
  have f2 := F.called_set.sub
  have f3 := F.called_set.notType
  have f4 := F.called_set.canCreate
  have f5 := F.typeCall_set_1 (.ref l)
  refine wpAny_call (codeAny_of_tree ?_)
  show wpAny _ _ (callAny (.type "set") _) _ _ _
  refine wpAny_pure ⟨Code.quiet_builtin _ (by decide +kernel), codeAny_builtin PySem.F.entry_type_call ?_⟩
  rw [Around.under_plain (weight_type_call_type "set" [.ref l] []) rfl]
  repeat (any_goals (first | assumption | wp_step))
  refine codeAny_mono (code_set_led1 (.ref l) (E := E) (Q₁ := fun u s1 => u = .ref s.heap.objs.size ∧ s1 = { s with heap := s.heap.push (nset w) }) ⟨rfl, rfl⟩) fun r s1 hr => ?_
  match r, hr with
  | .error e, hr => exact hr
  | .ok (.ret u), hr =>
    obtain ⟨rfl, rfl⟩ := hr
    have at1 : (s.heap.push (nset w)).get? s.heap.objs.size = some (nset w) := Heap.get?_push_size _ rfl
    have ty1 : Shared.TypeIs { s with heap := s.heap.push (nset w) } (.ref s.heap.objs.size) "set" := ⟨_, at1, rfl⟩
    have f6 := F.called_set.init.lookup
    have f7 := F.called_set.init.bind (.ref s.heap.objs.size)
    repeat (any_goals (first | assumption | wp_step))
    refine codeAny_mono (codeAny_call_builtin (R := wants (fun u s2 => u = .none ∧ ∃ h2 tk, s2 = { s with heap := h2, toks := tk } ∧ TxSet w h2 s.heap.objs.size (ddS xs) ∧ ∀ b o, s.heap.get? b = some o → h2.get? b = some o) E) F.called_set.init.plain F.entry_set_init (check_set_init_1 ty1 ?_)) fun r2 s2 hr2 => ?_
    · obtain ⟨ol, hol, hcl, nl, hdl⟩ := il
      obtain ⟨ocls, odict, odata, oslots⟩ := ol
      simp only at hcl hdl
      subst hcl hdl
      have hol' : (s.heap.push (nset w)).get? l = some { cls := .type "list", dict := odict, data := .seq its nl, slots := oslots } := Heap.get?_push_of_some _ hol
      have g1 := F.sub_list_set
      have g2 := F.sub_list_frozenset
      have g3 : (Value.type "list" == Value.type "dict") = false := by decide
      have il1 : (s.heap.push (nset w)).IsList l its := ⟨_, hol', rfl, nl, rfl⟩
      unfold Builtin.«set.__init__» noKeywords Builtin.Frozenset.updateFrom
      generalize hPI : pyIter = PI
      wp_walk
      subst hPI
      refine wpAny_pyIter_list il1 (wpAny_bind (wpAny_runValue ?_))
      have below : l < s.heap.objs.size := Heap.lt_size hol
      have hd3 : A.in1.in1.in1.handled = none := by simp [hd]
      have apart : l ≠ (s.heap.push (nset w)).objs.size := by
        rw [Heap.size_push]
        exact Nat.ne_of_lt (Nat.lt_succ_of_lt below)
      have off : s.heap.objs.size ∉ [(s.heap.push (nset w)).objs.size, l] := by
        rw [Heap.size_push]
        simp only [List.mem_cons, List.not_mem_nil, or_false, not_or]
        exact ⟨Nat.ne_of_lt (Nat.lt_succ_self _), Nat.ne_of_gt below⟩
      refine txLoop ((Walks.list hd3 _ l apart its).toS) off zs (by omega) (fun i v e => SS.strs_at sa i v (by rw [Array.getElem?_toList]; exact e)) (its.size - 0) 0 _ (by omega) (Nat.zero_le _) ⟨⟨_, Heap.get?_push_size _ rfl, rfl, rfl⟩, il1.push _⟩ ?start ?stop
      case start => exact TxSet.new (Heap.get?_push_of_some _ at1)
      case stop =>
        intro s3 mv R3
        obtain ⟨h3, g4, d4, tk4, os4⟩ := s3
        obtain rfl : g4 = s.gens := mv.gens
        obtain rfl : d4 = s.drawn := mv.drawn
        obtain rfl : os4 = s.os := mv.os
        show wpAny _ _ _ _ _ _
        refine wpAny_pure ?_
        show wpAny _ _ (ret Value.none) _ _ _
        refine wpAny_pure ⟨rfl, h3, tk4, rfl, R3, fun b o e => ?_⟩
        have hb := Heap.lt_size e
        refine mv.heap b o ?_ (Heap.get?_push_of_some _ (Heap.get?_push_of_some _ e))
        rw [Heap.size_push]
        simp only [List.mem_cons, List.not_mem_nil, or_false, not_or]
        exact ⟨Nat.ne_of_lt hb, Nat.ne_of_lt (Nat.lt_succ_of_lt hb)⟩
    · match r2, hr2 with
      | .error e, hr2 => exact hr2
      | .ok (.ret u), hr2 =>
        obtain ⟨rfl, h2, tk, rfl, R2, k2⟩ := hr2
        repeat (any_goals (first | assumption | wp_step))
        exact fin _ _ R2 k2
      | .ok .next, hr2 => exact hr2.elim
      | .ok .brk, hr2 => exact hr2.elim
      | .ok .cont, hr2 => exact hr2.elim
  | .ok .next, hr => exact hr.elim
  | .ok .brk, hr => exact hr.elim
  | .ok .cont, hr => exact hr.elim
end
end Fp

set_option maxHeartbeats 4000000
/-! Fp10: a text's meaning; what is seen of the text alone -/
namespace Fp
open PySem PySem.Spec PyProof.Rows L2 RZ

/-! ### looks at the text -/
def notStar : Expr → Bool
  | .Starred _ _ => false
  | _ => true
theorem star_cons {e : Expr} {es : List Expr} {env : Env} (h : notStar e = true) : starEach (e :: es) env = (false, eval e env) :: starEach es env := by
  cases e <;> first | rfl | cases h
theorem star_plain {env : Env} : ∀ {es : List Expr}, es.all notStar = true → starEach es env = es.map fun e => (false, eval e env)
  | [], _ => rfl
  | e :: es, h => by
    rw [List.all_cons, Bool.and_eq_true] at h
    rw [star_cons h.1, star_plain h.2]
    rfl
theorem back_any {env : Env} {pos : Pos} {es : List Expr} (h : es.all notStar = true) : (backTo pos (starEach es env)).any (·.1) = false := by
  rw [star_plain h]
  unfold backTo
  rw [List.any_eq_false]
  intro x hx
  simp only [List.mem_map] at hx
  obtain ⟨_, ⟨_, _, rfl⟩, rfl⟩ := hx
  simp
theorem back_all {env : Env} {pos : Pos} {es : List Expr} (h : es.all notStar = true) : (backTo pos (starEach es env)).all (fun x => !x.1) = true := by
  rw [star_plain h]
  unfold backTo
  rw [List.all_eq_true]
  intro x hx
  simp only [List.mem_map] at hx
  obtain ⟨_, ⟨_, _, rfl⟩, rfl⟩ := hx
  rfl
def isComp : Expr → Bool
  | .ListComp _ _ _ _ => true
  | .SetComp _ _ _ _ => true
  | .DictComp _ _ _ _ _ => true
  | _ => false
theorem swaps_no {e : Expr} {tg : Option Expr} {line : Nat} {env : Env} (h : isComp e = false) : swapsWith e tg line env = pure false := by
  cases e <;> first | rfl | cases h
def isSet : Expr → Bool
  | .Set _ _ _ => true
  | _ => false
theorem folded_no {e : Expr} {env : Env} (h : isSet e = false) : ∀ x, foldedSetIterable e env x = pure x := by
  cases e <;> first | (intro x; rfl) | cases h
def noSlice : Expr → Bool
  | .Slice _ _ _ _ => false
  | _ => true
theorem plainIx {b : Expr} (h : noSlice b = true) : PlainIx b := by
  cases b <;> first | (intro o i; rfl) | cases h
theorem augStore_plain {i : Expr} (h : noSlice i = true) : ∀ ov iv new, augStore i ov iv new = (do holding [new, ov, iv] (setItem ov iv new); release [new, ov, iv] []; pure .next) := by
  cases i <;> first | (intro _ _ _; rfl) | cases h
theorem assign_plain {o i : Expr} {pos : Pos} {env : Env} (h : noSlice i = true) : ∀ v, assign (.Subscript o i pos) env v = (do
      let ov ← holding [v] (eval o env)
      let iv ← holding [v, ov] (eval i env)
      standAt pos
      holding [v, ov, iv] (setItem ov iv v)
      release [v, ov, iv] []) := by
  cases i <;> first | (intro _; rfl) | cases h
/-- the receiver of a method is nothing special -/
def plainBase : Expr → Bool
  | .Call _ [] _ _ => false
  | _ => true
theorem base_plain {o : Expr} {m : Str} {env : Env} (h : plainBase o = true) : attributeBase o m env (eval o env) = eval o env := by
  cases o with
  | Call f args kws pos =>
    cases args with
    | nil => cases h
    | cons a r =>
      cases f <;> rfl
  | _ => rfl
/-- a test by its value's truth -/
def plainTest : Expr → Bool
  | .UnaryOp _ _ _ => false
  | .BoolOp _ _ _ => false
  | .IfExp _ _ _ _ => false
  | .Compare _ _ _ _ => false
  | _ => true
theorem test_plain {e : Expr} {env : Env} (h : plainTest e = true) : ∀ whole, isTrue e env whole = (do let v ← whole; standAt e.pos; holding [v] (truthy v)) := by
  cases e <;> first | (intro _; rfl) | cases h

/-! ### what is known of a def's text -/
structure Sta where
  N : List Str
  sc : Scope
  fnc : Str → Bool
  alt : List (Nat × Nat)
  fns : List (Str × Nat)
  bis : List Str
  ks : List (Str × Str)
  kd : List (Str × List (Str × D))
def visB (sc : Scope) (x : Str) : Bool :=
  match sc.names.lookup x with
  | some .local => true
  | some .cell => true
  | some .free => true
  | _ => false
def locB (sc : Scope) (x : Str) : Bool :=
  match sc.names.lookup x with
  | some .local => true
  | some .cell => true
  | _ => false
def onlyLocB (sc : Scope) (x : Str) : Bool :=
  match sc.names.lookup x with
  | some .local => true
  | _ => false
def glB (sc : Scope) (x : Str) : Bool :=
  match sc.names.lookup x with
  | some .globalImplicit => true
  | _ => false
theorem vis_of {sc : Scope} {x : Str} (h : visB sc x = true) : Vis sc x := by
  unfold visB at h
  split at h
  · exact .inl ‹_›
  · exact .inr (.inl ‹_›)
  · exact .inr (.inr ‹_›)
  · cases h
theorem loc_of {sc : Scope} {x : Str} (h : locB sc x = true) : Loc sc x := by
  unfold locB at h
  split at h
  · exact .inl ‹_›
  · exact .inr ‹_›
  · cases h
theorem onlyLoc_of {sc : Scope} {x : Str} (h : onlyLocB sc x = true) : sc.names.lookup x = some .local := by
  unfold onlyLocB at h
  split at h
  · assumption
  · cases h
theorem gl_of {sc : Scope} {x : Str} (h : glB sc x = true) : sc.names.lookup x = some .globalImplicit := by
  unfold glB at h
  split at h
  · assumption
  · cases h
def okN (x : Str) : Bool := !(x == ("__debug__" : Str)) && !(x == ("__classdict__" : Str)) && !decide (x = ("__name__" : Str))
theorem okN_of {x : Str} (h : okN x = true) : (x == ("__debug__" : Str)) = false ∧ (x == ("__classdict__" : Str)) = false ∧ x ≠ "__name__" := by
  unfold okN at h
  rw [Bool.and_eq_true, Bool.and_eq_true] at h
  refine ⟨by simpa using h.1.1, by simpa using h.1.2, by simpa using h.2⟩
def slotOf (S : Sta) (x : Str) : Option Nat :=
  match S.N.findIdx? (· == x) with
  | some i => if S.N[i]? = some x then some i else none
  | none => none
theorem slot_of {S : Sta} {x : Str} {i : Nat} (h : slotOf S x = some i) : S.N[i]? = some x := by
  unfold slotOf at h
  split at h
  · split at h
    · cases h
      assumption
    · cases h
  · cases h
def alOf (S : Sta) (pos : Pos) : Bool := S.alt.contains (pos.line, pos.col)

/-! ### meanings by names -/
def cName (S : Sta) (x : Str) : SE :=
  if okN x then
    if visB S.sc x then
      match slotOf S x with
      | some i => sVar i
      | none => sBad
    else if glB S.sc x then
      match S.ks.lookup x with
      | some z => sK (.str z)
      | none => sBad
    else sBad
  else sBad
def cConst : Const → SE
  | .none => sK .non
  | .bool b => sK (.bl b)
  | .int i => sK (.int i)
  | .str x => sK (.str x)
  | _ => sBad
def bopOf : Operator → Option (D → D → Mem → RD)
  | .Add => some opAdd
  | .Sub => some opSub
  | .Mult => some opMul
  | .FloorDiv => some opDiv
  | .Mod => some opMod
  | .Pow => some opPow
  | _ => none
def cmpOf : CmpOp → Option (D → D → Mem → Option Bool)
  | .Eq => some cpEq
  | .NotEq => some cpNe
  | .Lt => some cpLt
  | .LtE => some cpLe
  | .Gt => some cpGt
  | .GtE => some cpGe
  | .In => some cpIn
  | .NotIn => some cpNotIn
  | .Is => some cpIs
  | .IsNot => some cpIsNot
def iopOf : Operator → Option (D → D → Mem → RD)
  | .Add => some opIAdd
  | .Sub => some opISub
  | _ => none
def biOf (al : Bool) (x : Str) : Option (List D → Mem → RD) :=
  if x = ("len" : Str) then some (one biLen)
  else if x = ("tuple" : Str) then some (one biTuple)
  else if x = ("list" : Str) then some (one (biList al))
  else if x = ("dict" : Str) then some (one (biDict al))
  else if x = ("int" : Str) then some (one biInt)
  else if x = ("abs" : Str) then some (one biAbs)
  else if x = ("min" : Str) then some biMin
  else if x = ("max" : Str) then some biMax
  else if x = ("any" : Str) then some (one biAny)
  else if x = ("all" : Str) then some (one biAll)
  else if x = ("sorted" : Str) then some (one biSorted)
  else none
def mtOf (x : Str) : Nat → Option ((D → Mem → Bool) × (D → List D → Mem → RD))
  | 0 => if x = ("pop" : Str) then some (isL, mPop) else none
  | 1 =>
    if x = ("append" : Str) then some (isL, mAppend)
    else if x = ("extend" : Str) then some (isL, mExtend)
    else if x = ("get" : Str) then some (isDd, mGet1)
    else if x = ("update" : Str) then some (isDd, mUpdate)
    else none
  | 2 => if x = ("get" : Str) then some (isDd, mGet2) else none
  | _ => none
def kdIn (kvs : List (Str × D)) (d : D) (m : Mem) : RD :=
  match d with
  | .str z => .ok (.bl (kvs.lookup z).isSome, m)
  | _ => .bad
def kdNotIn (kvs : List (Str × D)) (d : D) (m : Mem) : RD :=
  match d with
  | .str z => .ok (.bl (!(kvs.lookup z).isSome), m)
  | _ => .bad
def kdGet (kvs : List (Str × D)) (d : D) (m : Mem) : RD :=
  match d with
  | .str z => match kvs.lookup z with
    | some v => .ok (v, m)
    | none => .bad
  | _ => .bad
def kdOf (S : Sta) : Expr → Option (List (Str × D))
  | .Name x _ => if okN x && glB S.sc x then S.kd.lookup x else none
  | _ => none

/-! ### targets -/
def nmSlot (S : Sta) : Expr → Option Nat
  | .Name x _ => if locB S.sc x && (S.fnc x || onlyLocB S.sc x) then slotOf S x else none
  | _ => none
def nmSlots (S : Sta) : List Expr → Option (List Nat)
  | [] => some []
  | e :: es => match nmSlot S e, nmSlots S es with
    | some i, some is => some (i :: is)
    | _, _ => none
def cG (S : Sta) : Expr → Tgt
  | .Name x p => match nmSlot S (.Name x p) with
    | some i => .nm i
    | none => .no
  | .Tuple es _ _ => match nmSlots S es with
    | some is => .tp is
    | none => .no
  | _ => .no

/-! ### the meaning of a text, over that of its parts -/
structure Cv where
  E : Sta → Expr → SE
  T : Sta → Expr → ST
  I : Sta → Expr → Expr → SI
  B : Sta → List Stmt → SS
def siBad : SI := fun _ _ _ => .bad
def soBad : SO := fun _ _ _ => .bad
def cA (r : Cv) (S : Sta) : List Expr → SA
  | [] => sNil
  | e :: es => sCons (r.E S e) (cA r S es)
def cAnd (r : Cv) (S : Sta) : List Expr → SE
  | [] => sBad
  | [a] => r.E S a
  | a :: b :: es => sAndE (r.E S a) (cAnd r S (b :: es))
def cOr (r : Cv) (S : Sta) : List Expr → SE
  | [] => sBad
  | [a] => r.E S a
  | a :: b :: es => sOrE (r.E S a) (cOr r S (b :: es))
def cCmp (r : Cv) (S : Sta) (a : Expr) (op : CmpOp) (b : Expr) : SE :=
  match kdOf S b, op with
  | some kvs, .In => sUn (kdIn kvs) (r.E S a)
  | some kvs, .NotIn => sUn (kdNotIn kvs) (r.E S a)
  | _, op => if behindInMarks op b then sBad else
    match cmpOf op with
    | some f => sOp (opC f) (r.E S a) (r.E S b)
    | none => sBad
def cO (r : Cv) (S : Sta) : Option Expr → SO
  | none => soNo
  | some e => soSome (r.E S e)
def cSub (r : Cv) (S : Sta) (a : Expr) : Expr → SE
  | .Slice lo hi none _ => sSl (r.E S a) (cO r S lo) (cO r S hi)
  | .Slice none none (some (.UnaryOp .USub (.Constant (.int 1) _ _) _)) _ => sUn opRev (r.E S a)
  | b => if noSlice b then
      match kdOf S a with
      | some kvs => sUn (kdGet kvs) (r.E S b)
      | none => sOp opIx (r.E S a) (r.E S b)
    else sBad
def cPairs (r : Cv) (S : Sta) : List (Option Expr) → List Expr → Option (List (SE × SE))
  | [], [] => some []
  | some k :: ks, v :: vs => match cPairs r S ks vs with
    | some ps => some ((r.E S k, r.E S v) :: ps)
    | none => none
  | _, _ => none
def sEmpD (al : Bool) : SE := fun _ _ m => mkD al [] m
def cDict (r : Cv) (S : Sta) (ks : List (Option Expr)) (vs : List Expr) (pos : Pos) : SE :=
  match ks, vs with
  | [], [] => sEmpD (alOf S pos)
  | ks, vs => match cPairs r S ks vs with
    | some ps => sDisp (alOf S pos) ps
    | none => sBad
def fnAt (S : Sta) (x : Str) : Option Nat := if okN x && glB S.sc x then S.fns.lookup x else none
def biAt (S : Sta) (x : Str) : Bool := okN x && glB S.sc x && S.bis.contains x
def setArg (S : Sta) : List Expr → Option Expr
  | [.Call (.Name y _) [a] [] _] => if y = ("set" : Str) ∧ biAt S y = true ∧ notStar a = true then some a else none
  | _ => none
def cBi (r : Cv) (S : Sta) (x : Str) (args : List Expr) (pos : Pos) : SE :=
  match args with
  | [] => sBad
  | a :: es => if biAt S x then
      match biOf (alOf S pos) x with
      | some f => sApp f (cA r S (a :: es))
      | none => sBad
    else sBad
/-- what stands within dict(zip(a, range(b))), dict(zip(a, range(b, c))) -/
def dzR (a : Expr) : List Expr → Option (Expr × Expr × Option Expr)
  | [b] => some (a, b, none)
  | [b, c] => some (a, b, some c)
  | _ => none
def dzArgs (S : Sta) : List Expr → Option (Expr × Expr × Option Expr)
  | [.Call (.Name z _) [a, .Call (.Name y _) rs [] _] [] _] =>
    if z = ("zip" : Str) ∧ y = ("range" : Str) ∧ biAt S z = true ∧ biAt S y = true ∧ notStar a = true ∧ rs.all notStar = true then dzR a rs else none
  | _ => none
def cBi3 (r : Cv) (S : Sta) (x : Str) (args : List Expr) (pos : Pos) : SE :=
  match dzArgs S args with
  | some (a, b, none) => if x = ("dict" : Str) ∧ biAt S x = true then sApp (biDZ1 (alOf S pos)) (cA r S [a, b]) else sBad
  | some (a, b, some c) => if x = ("dict" : Str) ∧ biAt S x = true then sApp (biDZ2 (alOf S pos)) (cA r S [a, b, c]) else sBad
  | none => cBi r S x args pos
def cBi2 (r : Cv) (S : Sta) (x : Str) (args : List Expr) (pos : Pos) : SE :=
  match setArg S args with
  | some a => if x = ("sorted" : Str) ∧ biAt S x = true then sUn biSortSet (r.E S a) else if x = ("len" : Str) ∧ biAt S x = true then sUn biLenSet (r.E S a) else sBad
  | none => cBi3 r S x args pos
def cCall (r : Cv) (S : Sta) (f : Expr) (args : List Expr) (pos : Pos) : SE :=
  if args.all notStar then
    match f with
    | .Name x _ => match fnAt S x with
      | some np => if args.length = np then sCall x (cA r S args) else sBad
      | none => cBi2 r S x args pos
    | .Attribute o m ap => if plainBase o && (ap.endLine == pos.line) && decide (args.length < 30) then
        match mtOf m args.length with
        | some gf => sMeth gf.1 gf.2 (r.E S o) (cA r S args)
        | none => sBad
      else sBad
    | _ => sBad
  else sBad
/-- the slots of a block's own names -/
def ownOf (N : List Str) (scope : Scope) : List (Str × Nat) := scope.names.filterMap fun y =>
  match y.2 with
  | .local => (N.findIdx? (· == y.1)).map fun i => (y.1, i)
  | .cell => (N.findIdx? (· == y.1)).map fun i => (y.1, i)
  | _ => none
def blkS (S : Sta) (scope : Scope) : Sta := { S with sc := relS scope S.sc, fnc := fun x => scope.names.lookup x == some .cell }
def cIfs (r : Cv) (S : Sta) : List Expr → ST
  | [] => stYes
  | [t] => r.T S t
  | _ => stBad
def ownB (t : Tgt) (own : List Nat) : Bool := t.slots.all fun i => own.contains i
def cComp (r : Cv) (S : Sta) (elt : Expr) (gens : List Comprehension) (scope : Scope) (pos : Pos) : SE :=
  match gens with
  | [⟨tg, iter, ifs, 0⟩] =>
    if blkC S.N S.sc scope (ownOf S.N scope) && ownB (cG (blkS S scope) tg) ((ownOf S.N scope).map (·.2)) && !isSet iter then
      sComp (alOf S pos) (r.I S tg iter) (cG (blkS S scope) tg) ((ownOf S.N scope).map (·.2)) (cIfs r (blkS S scope) ifs) (r.E (blkS S scope) elt)
    else sBad
  | [⟨tg, iter, [], 0⟩, ⟨tg1, iter1, ifs1, 0⟩] =>
    if blkC S.N S.sc scope (ownOf S.N scope) && ownB (cG (blkS S scope) tg) ((ownOf S.N scope).map (·.2)) && !isSet iter && !isSet iter1 && ownB (cG (blkS S scope) tg1) ((ownOf S.N scope).map (·.2)) then
      sComp2 (alOf S pos) (r.I S tg iter) (cG (blkS S scope) tg) ((ownOf S.N scope).map (·.2)) (r.I (blkS S scope) tg1 iter1) (cG (blkS S scope) tg1).slots (cG (blkS S scope) tg1) (cIfs r (blkS S scope) ifs1) (r.E (blkS S scope) elt)
    else sBad
  | _ => sBad
def stE (r : Cv) (S : Sta) (e : Expr) : SE :=
  match e with
  | .Name x _ => cName S x
  | .Constant c _ _ => cConst c
  | .BinOp a op b _ => match bopOf op with
    | some f => sOp f (r.E S a) (r.E S b)
    | none => sBad
  | .UnaryOp op a _ => match op with
    | .Not => sUn opNot (r.E S a)
    | .USub => sUn opNeg (r.E S a)
    | _ => sBad
  | .BoolOp op vs _ => match op with
    | .And => cAnd r S vs
    | .Or => cOr r S vs
  | .Compare a ops bs _ => match ops, bs with
    | [op], [b] => cCmp r S a op b
    | _, _ => sBad
  | .IfExp t a b _ => sIfE (r.T S t) (r.E S a) (r.E S b)
  | .Tuple es _ _ => if es.all notStar then sApp sTup (cA r S es) else sBad
  | .List es pos => if es.all notStar then sApp (mkL (alOf S pos)) (cA r S es) else sBad
  | .Dict ks vs pos => cDict r S ks vs pos
  | .Subscript a b _ => cSub r S a b
  | .Call f args [] pos => cCall r S f args pos
  | .ListComp elt gens scope pos => cComp r S elt gens scope pos
  | _ => sBad
def cAndT (r : Cv) (S : Sta) : List Expr → ST
  | [] => stBad
  | [a] => r.T S a
  | a :: b :: es => stAnd (r.T S a) (cAndT r S (b :: es))
def cOrT (r : Cv) (S : Sta) : List Expr → ST
  | [] => stBad
  | [a] => r.T S a
  | a :: b :: es => stOr (r.T S a) (cOrT r S (b :: es))
def cCmpT (r : Cv) (S : Sta) (a : Expr) (op : CmpOp) (b : Expr) : ST :=
  match kdOf S b, op with
  | some kvs, .In => stTru (sUn (kdIn kvs) (r.E S a))
  | some kvs, .NotIn => stTru (sUn (kdNotIn kvs) (r.E S a))
  | _, op => if behindInMarks op b then stBad else
    match cmpOf op with
    | some f => stCmp f (r.E S a) (r.E S b)
    | none => stBad
def stT (r : Cv) (S : Sta) (e : Expr) : ST :=
  match e with
  | .UnaryOp op a _ => match op with
    | .Not => stNot (r.T S a)
    | _ => stBad
  | .BoolOp op vs _ => match op with
    | .And => cAndT r S vs
    | .Or => cOrT r S vs
  | .Compare a ops bs _ => match ops, bs with
    | [op], [b] => cCmpT r S a op b
    | _, _ => stBad
  | .IfExp _ _ _ _ => stBad
  | e => stTru (r.E S e)
def stI (r : Cv) (S : Sta) (tg iter : Expr) : SI :=
  match iter with
  | .Call (.Name x p) [a] [] pos => if notStar a then
      if x = ("range" : Str) then (if biAt S x then siRange1 (cA r S [a]) else siBad) else siSeq (r.E S (.Call (.Name x p) [a] [] pos))
    else siBad
  | .Call (.Name x p) [a, b] [] pos => if notStar a && notStar b then
      if x = ("range" : Str) then (if biAt S x then siRange2 (cA r S [a, b]) else siBad)
      else if x = ("zip" : Str) then (if biAt S x then
        match tg with
        | .Tuple _ _ _ => siZip (cA r S [a, b])
        | _ => siBad
        else siBad)
      else siSeq (r.E S (.Call (.Name x p) [a, b] [] pos))
    else siBad
  | e => siSeq (r.E S e)

/-! ### statements -/
/-- the names that two tuples exchange, none: an unpacking; outer none: not here -/
def swP (S : Sta) (ts vs : List Expr) : Option (Option (List Str)) :=
  if !(ts.length == 2 || ts.length == 3) || vs.length != ts.length then some none
  else if vs.any (fun | .Starred .. => true | _ => false) then some none
  else
    let line := (ts.head?.map (·.pos.line)).getD 0
    let names := ts.filterMap fun
      | .Name id pos => if S.sc.names.lookup id == some .local && pos.line == line then some id else none
      | _ => none
    if names.length != ts.length || names.eraseDups.length != names.length then some none
    else if vs.all (foldedForSure 8) then some none
    else if vs.all (constantsAlone 8) then none
    else some (some names)
def cParS (r : Cv) (S : Sta) (ts : List Expr) (kt : Nat) (pt : Pos) (vs : List Expr) (kv : Nat) (pv : Pos) : SS :=
  match swP S ts vs with
  | some none => ssSet (cG S (.Tuple ts kt pt)) (r.E S (.Tuple vs kv pv))
  | some (some _) => match nmSlots S ts with
    | some is => if is.all (fun i => decide (is.count i = 1)) && vs.all notStar && (ts.all fun e => match e with | .Name x _ => onlyLocB S.sc x | _ => false) then ssPar is (cA r S vs) else ssBad
    | none => ssBad
  | none => ssBad
/-- does the store of a comprehension come before its names go -/
def swC (S : Sta) (t : Str) (tp cp : Pos) (scope : Scope) : Bool :=
  (S.sc.names.lookup t == some .local) && tp.line == cp.line && !(scope.names.any fun y => y.1 == t && (y.2 == .local || y.2 == .cell))
def cAsg (r : Cv) (S : Sta) (tg e : Expr) : SS :=
  match tg with
  | .Subscript o i _ => if noSlice i && !isComp e then ssPut (r.E S o) (r.E S i) (r.E S e) else ssBad
  | .Tuple ts kt pt => match e with
    | .Tuple vs kv pv => cParS r S ts kt pt vs kv pv
    | e => if isComp e then ssBad else ssSet (cG S (.Tuple ts kt pt)) (r.E S e)
  | .Name x p => match e with
    | .ListComp elt gens scope cp => ssSet (cG S (.Name x p)) (cComp r S elt gens scope cp)
    | e => if isComp e then ssBad else ssSet (cG S (.Name x p)) (r.E S e)
  | _ => ssBad
def stS (r : Cv) (S : Sta) (st : Stmt) : SS :=
  match st with
  | .Assign [tg] e _ => cAsg r S tg e
  | .AugAssign tg op e _ => match iopOf op with
    | some f => match tg with
      | .Name x p => match nmSlot S (.Name x p) with
        | some i => ssAug i f (r.E S e)
        | none => ssBad
      | .Subscript o i _ => if noSlice i then ssAugIx (r.E S o) (r.E S i) f (r.E S e) else ssBad
      | _ => ssBad
    | none => ssBad
  | .Expr (.Constant (.str _) _ _) _ => ssNil
  | .Expr e _ => if isComp e then ssBad else ssExpr (r.E S e)
  | .Return (some e) _ => ssRet (r.E S e)
  | .Return none _ => ssRetN
  | .If t a b _ => ssIf (r.T S t) (r.B S a) (r.B S b)
  | .While t b [] _ => ssWhile (r.T S t) (r.B S b)
  | .For tg it b [] _ => if isSet it then ssBad else ssFor (r.I S tg it) (cG S tg) (r.B S b)
  | .Pass _ => ssNil
  | .Break _ => ssBrk
  | .Continue _ => ssCnt
  | _ => ssBad
def stB (r : Cv) (S : Sta) : List Stmt → SS
  | [] => ssNil
  | s :: rest => ssCons (stS r S s) (stB r S rest)
/-- the meaning of texts that are no deeper than this -/
def cv : Nat → Cv
  | 0 => ⟨fun _ _ => sBad, fun _ _ => stBad, fun _ _ _ => siBad, fun _ _ => ssBad⟩
  | n + 1 => ⟨stE (cv n), stT (cv n), stI (cv n), stB (cv n)⟩
end Fp

set_option maxHeartbeats 4000000
/-! Fs3: sorted(set(xs)), len(set(xs)) of texts -/
namespace Fp
open PySem PySem.Spec PyProof.Rows L2
/-! ### the order of texts -/
theorem leB_iff {x y : Str} : leB x y = true ↔ x.cps.toList ≤ y.cps.toList := by
  unfold leB ltB
  rw [Bool.not_eq_true', decide_eq_false_iff_not]
  exact List.not_lt
theorem leB_trans {x y z : Str} (h : leB x y = true) (h2 : leB y z = true) : leB x z = true :=
  leB_iff.mpr (List.le_trans (leB_iff.mp h) (leB_iff.mp h2))
theorem leB_total (x y : Str) : (leB x y || leB y x) = true := by
  rw [Bool.or_eq_true, leB_iff, leB_iff]
  exact List.le_total _ _
theorem str_ext {x y : Str} (h : x.cps.toList = y.cps.toList) : x = y := by
  obtain ⟨a⟩ := x
  obtain ⟨b⟩ := y
  have e : a = b := Array.toList_inj.mp h
  rw [e]
theorem leB_anti {x y : Str} (h : leB x y = true) (h2 : leB y x = true) : x = y :=
  str_ext (List.le_antisymm (leB_iff.mp h) (leB_iff.mp h2))
theorem insS_perm (x : Str) : ∀ ys : List Str, (insS x ys).Perm (x :: ys)
  | [] => List.Perm.refl _
  | y :: ys => by
    unfold insS
    split
    · exact List.Perm.refl _
    · exact ((insS_perm x ys).cons y).trans (List.Perm.swap x y ys)
theorem sortS_perm : ∀ xs : List Str, (sortS xs).Perm xs
  | [] => List.Perm.refl _
  | x :: xs => (insS_perm x (sortS xs)).trans ((sortS_perm xs).cons x)
theorem insS_sorted (x : Str) : ∀ {ys : List Str}, ys.Pairwise (fun x y => leB x y = true) → (insS x ys).Pairwise (fun x y => leB x y = true)
  | [], _ => List.pairwise_singleton _ _
  | y :: ys, h => by
    obtain ⟨a, b⟩ := List.pairwise_cons.mp h
    unfold insS
    split
    · rename_i hx
      refine List.pairwise_cons.mpr ⟨fun z hz => ?_, h⟩
      rcases List.mem_cons.mp hz with e | hz
      · rw [e]
        exact hx
      · exact leB_trans hx (a z hz)
    · rename_i hx
      have hy : leB y x = true := by
        rcases Bool.or_eq_true _ _ |>.mp (leB_total x y) with t | t
        · exact absurd t hx
        · exact t
      refine List.pairwise_cons.mpr ⟨fun z hz => ?_, insS_sorted x b⟩
      rcases List.mem_cons.mp ((insS_perm x ys).mem_iff.mp hz) with e | hz
      · rw [e]
        exact hy
      · exact a z hz
theorem sortS_sorted : ∀ xs : List Str, (sortS xs).Pairwise (fun x y => leB x y = true)
  | [] => List.Pairwise.nil
  | x :: xs => insS_sorted x (sortS_sorted xs)
theorem sorted_eq : ∀ {xs ys : List Str}, xs.Pairwise (fun x y => leB x y = true) → ys.Pairwise (fun x y => leB x y = true) → xs.Perm ys → xs = ys
  | [], ys, _, _, p => by rw [p.nil_eq]
  | x :: xs, [], _, _, p => by
    have := p.length_eq
    cases this
  | x :: xs, y :: ys, h1, h2, p => by
    obtain ⟨a1, b1⟩ := List.pairwise_cons.mp h1
    obtain ⟨a2, b2⟩ := List.pairwise_cons.mp h2
    have e : x = y := by
      have m1 : x ∈ y :: ys := p.mem_iff.mp List.mem_cons_self
      have m2 : y ∈ x :: xs := p.mem_iff.mpr List.mem_cons_self
      rcases List.mem_cons.mp m1 with m1 | m1
      · exact m1
      · rcases List.mem_cons.mp m2 with m2 | m2
        · exact m2.symm
        · exact leB_anti (a1 y m2) (a2 x m1)
    subst e
    rw [sorted_eq b1 b2 (List.Perm.cons_inv p)]
theorem sortS_of {xs ys : List Str} (h : ys.Pairwise (fun x y => leB x y = true)) (p : ys.Perm xs) : ys = sortS xs := sorted_eq h (sortS_sorted xs) (p.trans (sortS_perm xs).symm)

/-! ### the machine's sort of them -/
def vS : Value → Str
  | .str x _ => x
  | _ => Str.empty
def ltVS (v u : Value) : Bool := ltB (vS v) (vS u)
theorem swoS : SrtO.Swo ltVS := by
  refine ⟨fun x y h => ?_, fun x y z h1 h2 => ?_⟩
  · have a := of_decide_eq_true (p := (vS x).cps.toList < (vS y).cps.toList) h
    exact decide_eq_false (List.not_lt.mpr (List.le_of_lt a))
  · have a : leB (vS x) (vS y) = true := by
      unfold leB
      rw [show ltB (vS y) (vS x) = false from h1]
      rfl
    have b : leB (vS y) (vS z) = true := by
      unfold leB
      rw [show ltB (vS z) (vS y) = false from h2]
      rfl
    have c := leB_trans a b
    unfold leB at c
    show ltB (vS z) (vS x) = false
    simpa using c
theorem strs_iv : ∀ {vs : List Value}, (∀ v ∈ vs, ∃ x t, v = Value.str x t) → StrsAre vs (vs.map vS)
  | [], _ => .nil
  | v :: vs, h => by
    obtain ⟨x, t, e⟩ := h v List.mem_cons_self
    subst e
    exact .cons x t (strs_iv fun u hu => h u (List.mem_cons_of_mem _ hu))
section
variable {P : Program} {w : World} {A : Around} {E : Value → Shared → Prop} {s : Shared} {a : Addr} {L : List Str}
theorem cmpS {vs : List Value} (h : ∀ v ∈ vs, ∃ x t, v = Value.str x t) : SrtO.Cmp P w A s oneType' (fun p => p.1 ∈ vs) (SrtO.lt2 ltVS) := by
  intro p q hp hq
  obtain ⟨x, t, e⟩ := h _ hp
  obtain ⟨y, u, e'⟩ := h _ hq
  show wpAny (model P w) A (keyLt' oneType' p.1 q.1) (fun r s' => s' = s ∧ r = ltVS p.1 q.1) (fun _ _ => False) s
  rw [e, e', keyLt'_oneType]
  exact oneLt_str ⟨rfl, rfl⟩
theorem sortableS {vs : List Value} (h : ∀ v ∈ vs, ∃ x t, v = Value.str x t) (h2 : 2 ≤ vs.length) : SrtO.SortableO P w A s a vs ltVS := by
  intro h' _
  refine ⟨oneType', fun Q E hq => ?_, cmpS h⟩
  match vs, h, h2 with
  | v1 :: v2 :: rest, h, _ =>
    rw [keyKind_strs (strs_iv h)]
    exact wpAny_pure hq
  | [], _, h => exact absurd h (by decide)
  | [v], _, h => exact absurd h (by simp)
theorem txSorted {Q : Value → Shared → Prop} (R : TxSet w s.heap a L) (hd : A.handled = none)
    (fin : ∀ s2 p (out : Array Value) c, (∀ b o, s.heap.get? b = some o → s2.heap.get? b = some o) → s2.gens = s.gens → s2.os = s.os → s.heap.objs.size ≤ p → s2.heap.get? p = some (seqObj "list" out c) → StrsAre out.toList (sortS L) → Q (.ref p) s2) :
    wpAny (model P w) A (call (.builtin "sorted") [.ref a]) Q E s := by
  obtain ⟨o, es, ep, t, q, x, d, en, pm, ft, ri, ld⟩ := R.ex
  have z : es.size = L.length := by
    have := pm.length_eq
    rw [List.length_map, Array.length_toList] at this
    exact this
  have few := R.few
  refine Calls.call_function_entry kind_sorted plain_sorted entry_sorted (args_sorted1 _) ?_
  unfold Builtin.«sorted»
  refine wpAny_bind (m := checkCount "sorted" 1 1 _) (wpAny_pure (wpAny_bind (collect_set (A := A.in1) hd ⟨o, q, x.1, d⟩ ft (by omega) ri ld fun s1 vs k1 z1 g1 o1 pv => ?_)))
  have zv : vs.length = L.length := by rw [pv.length_eq, List.length_map, Array.length_toList]; exact z
  have hv : ∀ v ∈ vs, ∃ y t, v = Value.str y t := fun v m => by
    obtain ⟨e, he, e2⟩ := List.mem_map.mp (pv.mem_iff.mp m)
    obtain ⟨y, t, rfl⟩ := en e he
    exact ⟨y, t, e2.symm⟩
  have sz : vs.length ≤ sizeLine := by
    rw [zv]
    exact fits_of_scanBound few
  refine wpAny_bind (wpAny_newList ?_ sz)
  have hoL : (s1.heap.push (seqObj "list" vs.toArray 0)).get? s1.heap.objs.size = some (seqObj "list" vs.toArray 0) := Heap.get?_push_size _ rfl
  refine wpAny_bind (wpAny_holding (wpAny_call_entry slot_list_sort ⟨_, hoL, rfl⟩ entry_list_sort (SrtO.list_sort_ord swoS hoL sz (fun h2 => sortableS hv h2) fun out b1 b2 => ⟨_, rfl, ?_⟩) (args_list_sort _)))
  obtain ⟨c, hc⟩ := sortedHeap_at (vs := vs) (out := out.toArray) hoL
  refine wpAny_pure ⟨_, rfl, fin _ s1.heap.objs.size out.toArray c (fun b u e => ?_) g1 o1 z1 hc ?_⟩
  · have y := k1 b u e
    have lt := Heap.lt_size y
    show (sortedHeap (s1.heap.push (seqObj "list" vs.toArray 0)) s1.heap.objs.size vs out.toArray).get? b = some u
    rw [sortedHeap_old (Nat.ne_of_lt lt) (by rw [size_push']; exact Nat.lt_succ_of_lt lt)]
    exact Heap.get?_push_of_some _ y
  · have ho : ∀ v ∈ out, ∃ y t, v = Value.str y t := fun v m => hv v (b2.perm.mem_iff.mp m)
    have e : out.map vS = sortS L := by
      refine sortS_of ?_ ?_
      · refine List.pairwise_map.mpr (b1.imp fun {x y} h => ?_)
        unfold leB
        rw [show ltB (vS y) (vS x) = false from h]
        rfl
      · refine (b2.perm.map vS).trans ((pv.map vS).trans ?_)
        have e3 : (es.toList.map (·.2)).map vS = es.toList.map kS := by
          rw [List.map_map]
          refine List.map_congr_left fun e he => ?_
          obtain ⟨y, t, rfl⟩ := en e he
          rfl
        rw [e3]
        exact pm
    rw [← e]
    simpa using strs_iv ho
end

/-! ### what it means -/
theorem strsD_rep {κ : KK} {φ : List Addr} {H : Hp} : ∀ {ds : List D} {xs : List Str} {vs : List V}, strsD ds = some xs → Reps κ φ H ds vs → vs = xs.map V.str
  | [], xs, vs, h, r => by
    cases h
    exact r
  | .str x :: ds, xs, vs, h, r => by
    unfold strsD at h
    obtain ⟨ys, h2, rfl⟩ := Option.map_eq_some_iff.mp h
    obtain ⟨v, r', rfl, e, r2⟩ := r
    obtain rfl : v = .str x := e
    rw [strsD_rep h2 r2]
    rfl
  | .non :: _, _, _, h, _ => by cases h
  | .bl _ :: _, _, _, h, _ => by cases h
  | .int _ :: _, _, _, h, _ => by cases h
  | .tup _ :: _, _, _, h, _ => by cases h
  | .lst _ :: _, _, _, h, _ => by cases h
  | .dct _ _ :: _, _, _, h, _ => by cases h
  | .scr _ :: _, _, _, h, _ => by cases h
  | .ref _ :: _, _, _, h, _ => by cases h
theorem strs_reps {κ : KK} {φ : List Addr} {H : Hp} : ∀ xs : List Str, Reps κ φ H (xs.map D.str) (xs.map V.str)
  | [] => rfl
  | x :: xs => ⟨_, _, rfl, rfl, strs_reps xs⟩
theorem setD_run {X : Cx} {ψ : List Addr} {pins : List (Addr × Obj)} {s : Shared} {σ : L2.St} {H : Hp} {φ : List Addr} {m : Mem} {d : D} {v : V} {u : Value} {xs : List Str} {Q : Value → Shared → Prop} (hc : X.calm = true) (I : Inv X pins σ H s) (M : MRep (kk X ψ) φ H m) (r : Rep (kk X ψ) φ H d v) (ru : RelV v u)
    (h : setD d m = some xs) (fin : ∀ h2 tk, Inv X pins σ H { s with heap := h2, toks := tk } → TxSet X.w h2 s.heap.objs.size xs → Q (.ref s.heap.objs.size) { s with heap := h2, toks := tk }) : wpAny (model X.prog X.w) X.A (call (.type "set") [u]) Q X.xe s := by
  unfold setD at h
  split at h
  · rename_i ds hd
    split at h
    · rename_i ys hs
      split at h
      · rename_i hl
        cases h
        obtain ⟨b, vs, rfl, hq, q⟩ := listD_rep hd M r
        obtain rfl := strsD_rep hs q
        cases ru
        obtain ⟨its, rv, pl, hz⟩ := I.list (SqL.of hq)
        exact txMake (I.ok.hd hc) pl.isList (by simpa using strsAre_of rv) (by show _ < 4096; omega) fun h2 tk R k => fin h2 tk (I.kept fun b o e => k b o e) R
      · cases h
    · cases h
  · cases h
theorem keysS_eq : ∀ {ks : List Key} {xs : List Str}, keysS ks = some xs → ks = xs.map Sum.inr
  | [], xs, h => by
    cases h
    rfl
  | .inr x :: ks, xs, h => by
    unfold keysS at h
    obtain ⟨ys, h2, rfl⟩ := Option.map_eq_some_iff.mp h
    rw [keysS_eq h2]
    rfl
  | .inl _ :: _, _, h => by cases h
theorem rising_sorted : ∀ (p : Str) (l : List Str), risingS p l = true → (p :: l).Pairwise (fun x y => leB x y = true)
  | p, [], _ => List.pairwise_singleton _ _
  | p, x :: r, h => by
    have h' : (!ltCps x.cps.toList p.cps.toList && risingS x r) = true := h
    rw [Bool.and_eq_true] at h'
    have ih := rising_sorted x r h'.2
    have hp : leB p x = true := by
      unfold leB ltB
      rw [← ltCps_eq]
      exact h'.1
    refine List.pairwise_cons.mpr ⟨fun y hy => ?_, ih⟩
    rcases List.mem_cons.mp hy with e | hy
    · rw [e]
      exact hp
    · exact leB_trans hp ((List.pairwise_cons.mp ih).1 y hy)
theorem sortedS_sorted {l : List Str} (h : sortedS l = true) : l.Pairwise (fun x y => leB x y = true) := by
  cases l with
  | nil => exact List.Pairwise.nil
  | cons x r => exact rising_sorted x r h
theorem cb_sorted {X : Cx} {ψ : List Addr} (hc : X.calm = true) : CallR X (.builtin "sorted") (rB (kk X ψ) (one biSorted)) := by
  intro pins s σ H xs us Q I r ⟨φ, m, ds, M, rs, p⟩
  match ds, rs, p with
  | [d], rs, p =>
    obtain ⟨v, rfl, rd⟩ := rs.one
    have p : PoE (kk X ψ) φ H Q (biSorted d m) := p
    unfold biSorted at p
    split at p
    · rename_i kvs hd
      split at p
      · rename_i ks hk
        split at p
        · rename_i hl
          obtain ⟨a, vs, rfl, h1, kr⟩ := dictD_rep hd M rd
          have hkeys : vs.map (·.1) = ks.map Sum.inr := by
            rw [← keysS_eq hk, kr.keys]
          refine call_sortedD hc pins s σ H _ us Q I r ⟨a, vs, ks, rfl, .inl h1, hkeys, hl, fun ys b hp hs hn => ?_⟩
          rw [sortS_of (sortedS_sorted hs) hp]
          exact PoE.lst p M (strs_reps _) b hn
        · exact p.elim
      · exact p.elim
    · exact p.elim
  | [], rs, p => exact p.elim
  | _ :: _ :: _, rs, p => exact p.elim
section
variable {X : Cx} {c : Cxt} {a : Expr} {p p2 q pos : Pos} {t : SE} {ψ : List Addr}
theorem st_of {s s' : Shared} (e : s'.os = s.os) : s' = { s with heap := s'.heap, gens := s'.gens, drawn := s'.drawn, toks := s'.toks } := by
  cases s'
  cases s
  cases e
  rfl
theorem pe_sortSet (hc : X.calm = true) (hg : Gl X "sorted") (hm : X.mg "sorted" = none) (hg2 : Gl X "set") (hm2 : X.mg "set" = none) (ha : PE X a (tE (kk X ψ) c t)) (hs : notStar a = true) :
    PE X (.Call (.Name "sorted" p) [.Call (.Name "set" p2) [a] [] q] [] pos) (tE (kk X ψ) c (sUn biSortSet t)) := by
  refine ⟨fun pins s σ H Q I h => ?_⟩
  refine Call_ (ld_blt I hg hm boot_sorted (PyProof.Rows.callWith_builtin1 (PyProof.Rows.args_cons (Call_ (ld_blt I hg2 hm2 boot_set ?_)) rfl) rfl rfl))
  refine PyProof.Rows.callWith_type1 (PyProof.Rows.args_cons (thn (ha.run pins s σ H _ I (t_un h)) fun u s1 ⟨x, H1, I1, r1, q1⟩ => PyProof.Rows.args_nil ?_) (star_cons hs)) (star_cons hs) rfl
  obtain ⟨φ, m, d, M, rd, pp⟩ := q1
  unfold biSortSet at pp
  split at pp
  · rename_i xs hx
    refine setD_run hc I1 M rd r1 hx fun h2 tk I2 R => PyProof.Rows.args_nil ?_
    refine txSorted (s := { s1 with heap := h2, toks := tk }) R (I2.ok.hd hc) fun s3 b out cc k g o hb hout hsa => ?_
    have hn : H1 b = none := I2.hok.fresh hb
    have hlen : ((sortS xs).map V.str).length ≤ sizeLine := by
      rw [List.length_map, (sortS_perm xs).length_eq]
      exact fits_of_scanBound R.few
    have J : Inv X pins σ (upd H1 b (.lst ((sortS xs).map V.str))) { { s1 with heap := h2, toks := tk } with heap := s3.heap, gens := s3.gens, drawn := s3.drawn, toks := s3.toks } :=
      I2.call (ch := []) (Un.laid k hb hn) (I2.hok.laid k hb ⟨hlen, out.toList, cc, vals_of_strs hsa, by simpa using hout⟩) (by rw [g]; exact I2.bare) (fun _ z => nomatch z)
    rw [st_of (s := { s1 with heap := h2, toks := tk }) o]
    exact ⟨.ref b, _, J, rfl, PoE.lst pp M (strs_reps _) b hn⟩
  · exact pp.elim
theorem pe_lenSet2 (hc : X.calm = true) (hg : Gl X "len") (hm : X.mg "len" = none) (hg2 : Gl X "set") (hm2 : X.mg "set" = none) (ha : PE X a (tE (kk X ψ) c t)) (hs : notStar a = true) :
    PE X (.Call (.Name "len" p) [.Call (.Name "set" p2) [a] [] q] [] pos) (tE (kk X ψ) c (sUn biLenSet t)) := by
  refine ⟨fun pins s σ H Q I h => ?_⟩
  refine Call_ (ld_blt I hg hm boot_len (PyProof.Rows.callWith_builtin1 (PyProof.Rows.args_cons (Call_ (ld_blt I hg2 hm2 boot_set ?_)) rfl) rfl rfl))
  refine PyProof.Rows.callWith_type1 (PyProof.Rows.args_cons (thn (ha.run pins s σ H _ I (t_un h)) fun u s1 ⟨x, H1, I1, r1, q1⟩ => PyProof.Rows.args_nil ?_) (star_cons hs)) (star_cons hs) rfl
  obtain ⟨φ, m, d, M, rd, pp⟩ := q1
  unfold biLenSet at pp
  split at pp
  · rename_i xs hx
    refine setD_run hc I1 M rd r1 hx fun h2 tk I2 R => PyProof.Rows.args_nil ?_
    obtain ⟨o, es, ep, t, q, x, d, en, pm, ft, ri, ld⟩ := R.ex
    have z : es.size = xs.length := by
      have := pm.length_eq
      rw [List.length_map, Array.length_toList] at this
      exact this
    have few : xs.length < 4096 := R.few
    refine call_len_set (s := { s1 with heap := h2, toks := tk }) q x d ft (by omega) ⟨.int xs.length, H1, I2.tok _, ⟨_, by rw [z]⟩, pp.same M rfl⟩
  · exact pp.elim
end
end Fp

set_option maxHeartbeats 4000000
/-! Fz1: zip over any two sources, and a dict made of it -/
namespace Fp
open PySem PySem.Spec PyProof.Rows
/-- an iterator at i: its items by nextOf; fp: what it looks at -/
structure NSrc (P : Program) (w : World) (i : Addr) (fp : List Addr) (n : Nat) (val : Nat → Value → Prop) (St : Nat → Heap → Prop) : Prop where
  me : i ∈ fp
  there : ∀ k h, St k h → ∀ b ∈ fp, ∃ o, h.get? b = some o
  frame : ∀ k h h2, St k h → (∀ b ∈ fp, ∀ o, h.get? b = some o → h2.get? b = some o) → St k h2
  item : ∀ (A : Around) (E : Value → Shared → Prop) (s : Shared) (k : Nat) (Q : Value → Shared → Prop), k < n → St k s.heap → (∀ v h2 tk, val k v → St (k + 1) h2 → Heap.SameBut i s.heap h2 → Q v { s with heap := h2, toks := tk }) →
    wpAny (model P w) A (Builtin.SmallTypes.nextOf (.ref i)) Q E s
  done : ∀ (A : Around) (E : Value → Shared → Prop) (s : Shared) (Q : Value → Shared → Prop), A.handled = none → St n s.heap → (∀ h2 e, Heap.ExtBut i s.heap h2 → (∃ o, h2.get? e = some o ∧ o.cls = .type "StopIteration") → E (.ref e) { s with heap := h2 }) →
    wpAny (model P w) A (Builtin.SmallTypes.nextOf (.ref i)) Q E s
section
variable {P : Program} {w : World}
theorem NSrc.tup (i l : Addr) (hne : l ≠ i) (xs : Array Value) : NSrc P w i [i, l] xs.size (fun k v => xs[k]? = some v) (fun k h => h.IsTupleIter i l k ∧ h.IsTuple l xs) where
  me := by simp
  there := fun k h st b hb => by
    obtain ⟨⟨o1, e1, _⟩, ⟨o2, e2, _⟩⟩ := st
    simp only [List.mem_cons, List.not_mem_nil, or_false] at hb
    rcases hb with rfl | rfl
    · exact ⟨o1, e1⟩
    · exact ⟨o2, e2⟩
  frame := fun k h h2 st f => ⟨st.1.at fun o e => f i (by simp) o e, st.2.at fun o e => f l (by simp) o e⟩
  item := fun A E s k Q hk st hQ => RZ.nextOf_tuple_item st.1 st.2 (Array.getElem?_eq_getElem hk) fun h2 it sb => hQ _ h2 s.toks (Array.getElem?_eq_getElem hk) ⟨it, st.2.extBut sb.extBut hne⟩ sb
  done := fun A E s Q hh st hE => RZ.nextOf_tuple_end hh st.1 st.2 (by simp) hE
theorem NSrc.lst (i l : Addr) (hne : l ≠ i) (xs : Array Value) : NSrc P w i [i, l] xs.size (fun k v => xs[k]? = some v) (fun k h => h.IsListIter i l k ∧ h.IsList l xs) where
  me := by simp
  there := fun k h st b hb => by
    obtain ⟨⟨o1, e1, _⟩, ⟨o2, e2, _⟩⟩ := st
    simp only [List.mem_cons, List.not_mem_nil, or_false] at hb
    rcases hb with rfl | rfl
    · exact ⟨o1, e1⟩
    · exact ⟨o2, e2⟩
  frame := fun k h h2 st f => ⟨st.1.at fun o e => f i (by simp) o e, st.2.at fun o e => f l (by simp) o e⟩
  item := fun A E s k Q hk st hQ => wpAny_nextOf_list_item st.1 st.2 (Array.getElem?_eq_getElem hk) fun h2 it sb => hQ _ h2 s.toks (Array.getElem?_eq_getElem hk) ⟨it, st.2.extBut sb.extBut hne⟩ sb
  done := fun A E s Q hh st hE => wpAny_nextOf_list_end hh st.1 st.2 (by simp) hE
theorem NSrc.rng (i : Addr) (a : Int) (n : Nat) : NSrc P w i [i] n (fun k v => ∃ t, v = .int (a + k) t) (fun k h => IsRangeIter h i (a + (k : Nat)) ((n : Int) - (k : Nat)) 1) where
  me := by simp
  there := fun k h st b hb => by
    rw [List.mem_singleton.mp hb]
    exact ⟨_, st⟩
  frame := fun k h h2 st f => f i (by simp) _ st
  item := fun A E s k Q hk st hQ => by
    have ty : s.TypeIs (.ref i) "range_iterator" := ⟨_, st, rfl⟩
    unfold Builtin.SmallTypes.nextOf
    refine wpAny_bind (wpAny_callSpecial?_slot (name := Str.ofString "__next__") ty F.slot_range_iterator_next
      (call_meets F.slot_range_iterator_next ty F.entry_range_iterator_next (F.args_range_iterator_next_1 _) (AutoRange.range_iterator___next___range_iterator_1 i _ _ _ (by omega)) ⟨st, ?_⟩))
    refine wpAny_pure (hQ _ _ _ ⟨_, rfl⟩ ?_ ((Heap.SameBut.update ..).trans (Heap.SameBut.update ..)))
    have e1 : a + ((k + 1 : Nat) : Int) = a + (k : Int) + 1 := by omega
    have e2 : (n : Int) - ((k + 1 : Nat) : Int) = (n : Int) - (k : Int) - 1 := by omega
    rw [e1, e2]
    exact Heap.get?_update_self _ (Heap.get?_update_self _ st rfl) rfl
  done := fun A E s Q hh st hE => by
    have ty : s.TypeIs (.ref i) "range_iterator" := ⟨_, st, rfl⟩
    unfold Builtin.SmallTypes.nextOf
    refine wpAny_bind (wpAny_callSpecial?_slot (name := Str.ofString "__next__") ty F.slot_range_iterator_next (wpAny_call_entry F.slot_range_iterator_next ty F.entry_range_iterator_next ?_ (F.args_range_iterator_next_1 _)))
    show wpAny _ _ (field (.ref i) 0 >>= _) _ _ s
    refine wpAny_bind (wpAny_field st rfl (x := rawInt (a + (n : Nat))) rfl ?_)
    show wpAny _ _ (field (.ref i) 1 >>= _) _ _ s
    refine wpAny_bind (wpAny_field st rfl (x := rawInt ((n : Int) - (n : Nat))) rfl ?_)
    show wpAny _ _ (field (.ref i) 2 >>= _) _ _ s
    refine wpAny_bind (wpAny_field st rfl (x := rawInt 1) rfl ?_)
    show wpAny _ _ (if (n : Int) - (n : Nat) ≤ 0 then _ else _) _ _ s
    rw [if_pos (by omega)]
    refine wpAny_bind (wpAny_rule (wpAny_bind ?_))
    show wpAny _ _ (newExc (.type "StopIteration") [] >>= _) _ _ _
    refine wpAny_bind ?_
    simp only [newExc, newTuple]
    refine wpAny_bind (wpAny_newObj_type ?_ (by size_fits))
    refine wpAny_bind (m := firstArgMember _ _) (wpAny_of_eq (a := Value.none) (by first | rfl | (simp only [firstArgMember]; rfl)) ?_)
    refine wpAny_newObj_type ?_ (by size_fits)
    simp only [raiseNew]
    refine wpAny_bind (wpAny_handled ?_)
    first | rw [show A.in1.handled = none from hh] | rw [hh]
    refine wpAny_bind (wpAny_pure (wpAny_throw ?_))
    exact hE _ _ (((Heap.ExtBut.refl i s.heap).push _).push _) ⟨_, Heap.get?_push_size _ rfl, rfl⟩
end
end Fp

set_option maxHeartbeats 4000000
/-! Fz2: the next pair of a zip over any two sources -/
namespace Fp
open PySem PySem.Spec PyProof.Rows
structure ZA (z TI TO i1 i2 : Addr) (f1 f2 : List Addr) : Prop where
  m1 : i1 ∈ f1
  m2 : i2 ∈ f2
  tz : TI ≠ z
  oz : TO ≠ z
  to : TI ≠ TO
  z1 : z ∉ f1
  z2 : z ∉ f2
  t1 : TI ∉ f1
  t2 : TI ∉ f2
  o1 : TO ∉ f1
  o2 : TO ∉ f2
  a12 : i1 ∉ f2
  a21 : i2 ∉ f1
section
variable {P : Program} {w : World} {A : Around} {E : Value → Shared → Prop} {s : Shared} {z TI TO T i1 i2 : Addr} {f1 f2 : List Addr} {n1 n2 k : Nat} {v1 v2 : Nat → Value → Prop} {S1 S2 : Nat → Heap → Prop}
theorem ZA.ne1 (D : ZA z TI TO i1 i2 f1 f2) {b : Addr} (h : b ∈ f1) : b ≠ z ∧ b ≠ TI ∧ b ≠ TO ∧ b ≠ i2 := ⟨fun e => D.z1 (e ▸ h), fun e => D.t1 (e ▸ h), fun e => D.o1 (e ▸ h), fun e => D.a21 (e ▸ h)⟩
theorem ZA.ne2 (D : ZA z TI TO i1 i2 f1 f2) {b : Addr} (h : b ∈ f2) : b ≠ z ∧ b ≠ TI ∧ b ≠ TO ∧ b ≠ i1 := ⟨fun e => D.z2 (e ▸ h), fun e => D.t2 (e ▸ h), fun e => D.o2 (e ▸ h), fun e => D.a12 (e ▸ h)⟩
/-- what both kinds of a next are to leave -/
def ZKeep (z TO i1 i2 : Addr) (h h2 : Heap) : Prop := ∀ c o, c ≠ z → c ≠ TO → c ≠ i1 → c ≠ i2 → h.get? c = some o → h2.get? c = some o
theorem zItem (D : ZA z TI TO i1 i2 f1 f2) (N1 : NSrc P w i1 f1 n1 v1 S1) (N2 : NSrc P w i2 f2 n2 v2 S2) {a b : Value} {Q : Value → Shared → Prop} (hz : IsZip s.heap z TI TO .none) (hI : IsPair s.heap TI (.ref i1) (.ref i2)) (hO : IsPair s.heap TO a b) (g1 : S1 k s.heap) (g2 : S2 k s.heap) (l1 : k < n1) (l2 : k < n2)
    (fin : ∀ h2 tk x y, v1 k x → v2 k y → IsZip h2 z TI TO (rawInt s.heap.objs.size) → S1 (k + 1) h2 → S2 (k + 1) h2 → IsPair h2 s.heap.objs.size x y → ZKeep z TO i1 i2 s.heap h2 → Q (.ref s.heap.objs.size) { s with heap := h2, toks := tk }) :
    wpAny (model P w) A (Builtin.«zip.__next__» ⟨[.ref z], []⟩) (fun fin s' => ∃ v, fin = .done (.ret v) ∧ Q v s') E s := by
  have e1 := D.ne1 D.m1
  have e2 := D.ne2 D.m2
  show wpAny _ _ (field (.ref z) 2 >>= _) _ _ _
  refine wpAny_bind (wpAny_field hz rfl (x := .bool false) rfl ?_)
  show wpAny _ _ (field (.ref z) 3 >>= _) _ _ _
  refine wpAny_bind (wpAny_field hz rfl (x := .ref TI) rfl (wpAny_bind (wpAny_seqItems hI rfl ?_)))
  show wpAny _ _ (Builtin.SmallTypes.ownedTupleIsFree (.ref z) >>= _) _ _ _
  refine wpAny_bind ?_
  unfold Builtin.SmallTypes.ownedTupleIsFree
  refine wpAny_bind (wpAny_field hz rfl (x := .none) rfl (wpAny_pure ?_))
  simp only [if_true]
  refine wpAny_bind (wpAny_rule (wpAny_bind (wpAny_field hz rfl (x := .ref TO) rfl (wpAny_bind (wpAny_setField_rec hz (by simp) fun h1 hz1 sb1 => ?_)))))
  replace hz1 : IsZip h1 z TI TO .ellipsis := hz1
  refine wpAny_bind ?_
  simp only [List.zipIdx_cons, List.zipIdx_nil, List.forIn_cons, List.forIn_nil]
  refine wpAny_bind (wpAny_bind (wpAny_onRaise ?_))
  show wpAny _ _ (Builtin.SmallTypes.nextOf (.ref i1) >>= _) _ _ _
  refine wpAny_bind (N1.item _ _ { s with heap := h1 } k _ l1 (N1.frame _ _ _ g1 fun b hb o e => sb1.extBut _ _ (D.ne1 hb).1 e) fun x h2 tk2 p1 st1 sb2 => wpAny_pure ?_)
  have O2 : IsPair h2 TO a b := sb2.extBut _ _ e1.2.2.1.symm (sb1.extBut _ _ D.oz hO)
  refine wpAny_bind (wpAny_seqItems O2 rfl (wpAny_bind (wpAny_updateSeq_pair O2 fun h3 O3 sb3 => ?_)))
  replace O3 : IsPair h3 TO x b := O3
  refine wpAny_bind (wpAny_letGo (wpAny_pure ?_))
  refine wpAny_bind (wpAny_bind (wpAny_onRaise ?_))
  show wpAny _ _ (Builtin.SmallTypes.nextOf (.ref i2) >>= _) _ _ _
  refine wpAny_bind (N2.item _ _ { s with heap := h3, toks := tk2 } k _ l2 (N2.frame _ _ _ g2 fun b hb o e => sb3.extBut _ _ (D.ne2 hb).2.2.1 (sb2.extBut _ _ (D.ne2 hb).2.2.2 (sb1.extBut _ _ (D.ne2 hb).1 e))) fun y h4 tk4 p2 st2 sb4 => wpAny_pure ?_)
  have O4 : IsPair h4 TO x b := sb4.extBut _ _ e2.2.2.1.symm O3
  refine wpAny_bind (wpAny_seqItems O4 rfl (wpAny_bind (wpAny_updateSeq_pair O4 fun h5 O5 sb5 => ?_)))
  replace O5 : IsPair h5 TO x y := O5
  refine wpAny_bind (wpAny_letGo (wpAny_pure (wpAny_pure ?_)))
  refine wpAny_bind (wpAny_seqItems O5 rfl (wpAny_bind (wpAny_newTuple ?_)))
  have size5 : h5.objs.size = s.heap.objs.size := by rw [sb5.1, sb4.1, sb3.1, sb2.1, sb1.1]
  have Z5 : IsZip h5 z TI TO .ellipsis := sb5.extBut _ _ D.oz.symm (sb4.extBut _ _ e2.1.symm (sb3.extBut _ _ D.oz.symm (sb2.extBut _ _ e1.1.symm hz1)))
  have K5 : ZKeep z TO i1 i2 s.heap h5 := fun c o c1 c2 c3 c4 e => sb5.extBut _ _ c2 (sb4.extBut _ _ c4 (sb3.extBut _ _ c2 (sb2.extBut _ _ c3 (sb1.extBut _ _ c1 e))))
  have F1 : S1 (k + 1) h5 := N1.frame _ _ _ st1 fun b hb o e => sb5.extBut _ _ (D.ne1 hb).2.2.1 (sb4.extBut _ _ (D.ne1 hb).2.2.2 (sb3.extBut _ _ (D.ne1 hb).2.2.1 e))
  have F2 : S2 (k + 1) h5 := N2.frame _ _ _ st2 fun b hb o e => sb5.extBut _ _ (D.ne2 hb).2.2.1 e
  show wpAny _ _ (Builtin.SmallTypes.ownedTupleHandOut (.ref z) (.ref h5.objs.size) >>= _) _ _ _
  refine wpAny_bind ?_
  unfold Builtin.SmallTypes.ownedTupleHandOut
  have Z6 : IsZip (h5.push { cls := .type "tuple", data := .seq #[x, y] }) z TI TO .ellipsis := Heap.get?_push_of_some _ Z5
  refine wpAny_bind (wpAny_setField_rec Z6 (by simp) fun h7 Z7 sb7 => ?_)
  replace Z7 : IsZip h7 z TI TO (rawInt h5.objs.size) := Z7
  refine wpAny_setField_rec Z7 (by simp) fun h8 Z8 sb8 => ?_
  replace Z8 : IsZip h8 z TI TO (rawInt h5.objs.size) := Z8
  have up : ∀ c o, c ≠ z → h5.get? c = some o → h8.get? c = some o := fun c o c1 e => sb8.extBut _ _ c1 (sb7.extBut _ _ c1 (Heap.get?_push_of_some _ e))
  have lz : z < h5.objs.size := Heap.lt_size Z5
  have T8 : IsPair h8 h5.objs.size x y := sb8.extBut _ _ (Nat.ne_of_gt lz) (sb7.extBut _ _ (Nat.ne_of_gt lz) (Heap.get?_push_size _ rfl))
  rw [size5] at Z8 T8
  refine wpAny_pure ⟨_, rfl, ?_⟩
  show Q (.ref h5.objs.size) _
  rw [size5]
  exact fin h8 _ x y p1 p2 Z8 (N1.frame _ _ _ F1 fun b hb o e => up _ _ (D.ne1 hb).1 e) (N2.frame _ _ _ F2 fun b hb o e => up _ _ (D.ne2 hb).1 e) T8 fun c o c1 c2 c3 c4 e => up c o c1 (K5 c o c1 c2 c3 c4 e)
theorem zHeld (D : ZA z TI TO i1 i2 f1 f2) (N1 : NSrc P w i1 f1 n1 v1 S1) (N2 : NSrc P w i2 f2 n2 v2 S2) {f : Bool} {oT : Obj} {Q : Value → Shared → Prop} (hz : IsZipHeld s.heap z TI TO T f) (hT : s.heap.get? T = some oT) (hI : IsPair s.heap TI (.ref i1) (.ref i2)) (g1 : S1 k s.heap) (g2 : S2 k s.heap) (l1 : k < n1) (l2 : k < n2)
    (fin : ∀ h2 tk x y, v1 k x → v2 k y → IsZipHeld h2 z TI TO T true → S1 (k + 1) h2 → S2 (k + 1) h2 → IsPair h2 s.heap.objs.size x y → ZKeep z TO i1 i2 s.heap h2 → (∀ o, TO ≠ z → s.heap.get? TO = some o → h2.get? TO = some o) → Q (.ref s.heap.objs.size) { s with heap := h2, toks := tk }) :
    wpAny (model P w) A (Builtin.«zip.__next__» ⟨[.ref z], []⟩) (fun fin s' => ∃ v, fin = .done (.ret v) ∧ Q v s') E s := by
  have e1 := D.ne1 D.m1
  have e2 := D.ne2 D.m2
  show wpAny _ _ (field (.ref z) 2 >>= _) _ _ _
  refine wpAny_bind (wpAny_field hz rfl (x := .bool false) rfl ?_)
  show wpAny _ _ (field (.ref z) 3 >>= _) _ _ _
  refine wpAny_bind (wpAny_field hz rfl (x := .ref TI) rfl (wpAny_bind (wpAny_seqItems hI rfl ?_)))
  show wpAny _ _ (Builtin.SmallTypes.ownedTupleIsFree (.ref z) >>= _) _ _ _
  refine wpAny_bind (wpAny_tupleHeld_zip hz hT fun h1 hz1 sb1 => ?_)
  simp only [Bool.false_eq_true, if_false]
  refine wpAny_bind ?_
  rw [← Array.forIn_toList]
  simp only [List.forIn_cons, List.forIn_nil]
  refine wpAny_bind (wpAny_bind (wpAny_holding ?_))
  show wpAny _ _ (Builtin.SmallTypes.nextOf (.ref i1) >>= _) _ _ _
  refine wpAny_bind (N1.item _ _ { s with heap := h1 } k _ l1 (N1.frame _ _ _ g1 fun b hb o e => sb1.extBut _ _ (D.ne1 hb).1 e) fun x h2 tk2 p1 st1 sb2 => wpAny_pure (wpAny_pure ?_))
  refine wpAny_bind (wpAny_bind (wpAny_holding ?_))
  show wpAny _ _ (Builtin.SmallTypes.nextOf (.ref i2) >>= _) _ _ _
  refine wpAny_bind (N2.item _ _ { s with heap := h2, toks := tk2 } k _ l2 (N2.frame _ _ _ g2 fun b hb o e => sb2.extBut _ _ (D.ne2 hb).2.2.2 (sb1.extBut _ _ (D.ne2 hb).1 e)) fun y h3 tk3 p2 st2 sb3 => wpAny_pure (wpAny_pure (wpAny_pure ?_)))
  show wpAny _ _ (newTuple [x, y] >>= _) _ _ _
  refine wpAny_bind (wpAny_newTuple ?_)
  have size3 : h3.objs.size = s.heap.objs.size := by rw [sb3.1, sb2.1, sb1.1]
  have Z3 : IsZipHeld h3 z TI TO T true := sb3.extBut _ _ e2.1.symm (sb2.extBut _ _ e1.1.symm hz1)
  have F1 : S1 (k + 1) h3 := N1.frame _ _ _ st1 fun b hb o e => sb3.extBut _ _ (D.ne1 hb).2.2.2 e
  refine wpAny_pure ⟨_, rfl, ?_⟩
  show Q (.ref h3.objs.size) _
  have T3 : IsPair (h3.push { cls := .type "tuple", data := .seq #[x, y] }) h3.objs.size x y := Heap.get?_push_size _ rfl
  rw [size3] at T3 ⊢
  exact fin _ _ x y p1 p2 (Heap.get?_push_of_some _ Z3) (N1.frame _ _ _ F1 fun b hb o e => Heap.get?_push_of_some _ e) (N2.frame _ _ _ st2 fun b hb o e => Heap.get?_push_of_some _ e) T3
    (fun c o c1 _ c3 c4 e => Heap.get?_push_of_some _ (sb3.extBut _ _ c4 (sb2.extBut _ _ c3 (sb1.extBut _ _ c1 e)))) fun o _ e => Heap.get?_push_of_some _ (sb3.extBut _ _ e2.2.2.1.symm (sb2.extBut _ _ e1.2.2.1.symm (sb1.extBut _ _ D.oz e)))
theorem zEnd (hh : A.handled = none) (D : ZA z TI TO i1 i2 f1 f2) (N1 : NSrc P w i1 f1 n1 v1 S1) (N2 : NSrc P w i2 f2 n2 v2 S2) {a b : Value} {Q : Fin → Shared → Prop} (hz : IsZip s.heap z TI TO .none) (hI : IsPair s.heap TI (.ref i1) (.ref i2)) (hO : IsPair s.heap TO a b) (g1 : S1 k s.heap) (g2 : S2 k s.heap) (l : k = n1 ∨ (k < n1 ∧ k = n2))
    (fin : ∀ h2 tk e, ZKeep z TO i1 i2 s.heap h2 → (∃ o, h2.get? e = some o ∧ o.cls = .type "StopIteration") → E (.ref e) { s with heap := h2, toks := tk }) :
    wpAny (model P w) A (Builtin.«zip.__next__» ⟨[.ref z], []⟩) Q E s := by
  have e1 := D.ne1 D.m1
  have e2 := D.ne2 D.m2
  show wpAny _ _ (field (.ref z) 2 >>= _) _ _ _
  refine wpAny_bind (wpAny_field hz rfl (x := .bool false) rfl ?_)
  show wpAny _ _ (field (.ref z) 3 >>= _) _ _ _
  refine wpAny_bind (wpAny_field hz rfl (x := .ref TI) rfl (wpAny_bind (wpAny_seqItems hI rfl ?_)))
  show wpAny _ _ (Builtin.SmallTypes.ownedTupleIsFree (.ref z) >>= _) _ _ _
  refine wpAny_bind ?_
  unfold Builtin.SmallTypes.ownedTupleIsFree
  refine wpAny_bind (wpAny_field hz rfl (x := .none) rfl (wpAny_pure ?_))
  simp only [if_true]
  refine wpAny_bind (wpAny_rule (wpAny_bind (wpAny_field hz rfl (x := .ref TO) rfl (wpAny_bind (wpAny_setField_rec hz (by simp) fun h1 hz1 sb1 => ?_)))))
  replace hz1 : IsZip h1 z TI TO .ellipsis := hz1
  refine wpAny_bind ?_
  simp only [List.zipIdx_cons, List.zipIdx_nil, List.forIn_cons, List.forIn_nil]
  refine wpAny_bind (wpAny_bind (wpAny_onRaise ?_))
  show wpAny _ _ (Builtin.SmallTypes.nextOf (.ref i1) >>= _) _ _ _
  have G1 := N1.frame _ _ _ g1 fun b hb o e => sb1.extBut _ _ (D.ne1 hb).1 e
  rcases l with l | ⟨l1, l2⟩
  · rw [l] at G1
    refine wpAny_bind (N1.done _ _ { s with heap := h1 } _ hh G1 fun h2 e x2 ⟨oe, qe, ce⟩ => ?_)
    have Z2 : IsZip h2 z TI TO .ellipsis := x2 _ _ e1.1.symm hz1
    have ne : e ≠ z := fun q => by subst q; rw [Z2] at qe; cases qe; simp at ce
    exact wpAny_setField_rec Z2 (by simp) fun h3 _ sb3 => fin h3 _ e (fun c o c1 _ c3 _ q => sb3.extBut _ _ c1 (x2 _ _ c3 (sb1.extBut _ _ c1 q))) ⟨oe, sb3.extBut _ _ ne qe, ce⟩
  · refine wpAny_bind (N1.item _ _ { s with heap := h1 } k _ l1 G1 fun x h2 tk2 p1 st1 sb2 => wpAny_pure ?_)
    have O2 : IsPair h2 TO a b := sb2.extBut _ _ e1.2.2.1.symm (sb1.extBut _ _ D.oz hO)
    refine wpAny_bind (wpAny_seqItems O2 rfl (wpAny_bind (wpAny_updateSeq_pair O2 fun h3 O3 sb3 => ?_)))
    refine wpAny_bind (wpAny_letGo (wpAny_pure (wpAny_bind (wpAny_bind (wpAny_onRaise ?_)))))
    show wpAny _ _ (Builtin.SmallTypes.nextOf (.ref i2) >>= _) _ _ _
    have G2 := N2.frame _ _ h3 g2 fun b hb o e => sb3.extBut _ _ (D.ne2 hb).2.2.1 (sb2.extBut _ _ (D.ne2 hb).2.2.2 (sb1.extBut _ _ (D.ne2 hb).1 e))
    rw [l2] at G2
    refine wpAny_bind (N2.done _ _ { s with heap := h3, toks := tk2 } _ hh G2 fun h4 e x4 ⟨oe, qe, ce⟩ => ?_)
    have Z4 : IsZip h4 z TI TO .ellipsis := x4 _ _ e2.1.symm (sb3.extBut _ _ D.oz.symm (sb2.extBut _ _ e1.1.symm hz1))
    have ne : e ≠ z := fun q => by subst q; rw [Z4] at qe; cases qe; simp at ce
    exact wpAny_setField_rec Z4 (by simp) fun h5 _ sb5 => fin h5 _ e (fun c o c1 c2 c3 c4 q => sb5.extBut _ _ c1 (x4 _ _ c4 (sb3.extBut _ _ c2 (sb2.extBut _ _ c3 (sb1.extBut _ _ c1 q))))) ⟨oe, sb5.extBut _ _ ne qe, ce⟩
theorem zEndHeld (hh : A.handled = none) (D : ZA z TI TO i1 i2 f1 f2) (N1 : NSrc P w i1 f1 n1 v1 S1) (N2 : NSrc P w i2 f2 n2 v2 S2) {f : Bool} {oT : Obj} {Q : Fin → Shared → Prop} (hz : IsZipHeld s.heap z TI TO T f) (hT : s.heap.get? T = some oT) (hI : IsPair s.heap TI (.ref i1) (.ref i2)) (g1 : S1 k s.heap) (g2 : S2 k s.heap) (l : k = n1 ∨ (k < n1 ∧ k = n2))
    (fin : ∀ h2 tk e, ZKeep z TO i1 i2 s.heap h2 → (∃ o, h2.get? e = some o ∧ o.cls = .type "StopIteration") → E (.ref e) { s with heap := h2, toks := tk }) :
    wpAny (model P w) A (Builtin.«zip.__next__» ⟨[.ref z], []⟩) Q E s := by
  show wpAny _ _ (field (.ref z) 2 >>= _) _ _ _
  refine wpAny_bind (wpAny_field hz rfl (x := .bool false) rfl ?_)
  show wpAny _ _ (field (.ref z) 3 >>= _) _ _ _
  refine wpAny_bind (wpAny_field hz rfl (x := .ref TI) rfl (wpAny_bind (wpAny_seqItems hI rfl ?_)))
  show wpAny _ _ (Builtin.SmallTypes.ownedTupleIsFree (.ref z) >>= _) _ _ _
  refine wpAny_bind (wpAny_tupleHeld_zip hz hT fun h1 hz1 sb1 => ?_)
  simp only [Bool.false_eq_true, if_false]
  refine wpAny_bind ?_
  rw [← Array.forIn_toList]
  simp only [List.forIn_cons, List.forIn_nil]
  refine wpAny_bind (wpAny_bind (wpAny_holding ?_))
  show wpAny _ _ (Builtin.SmallTypes.nextOf (.ref i1) >>= _) _ _ _
  have G1 := N1.frame _ _ _ g1 fun b hb o e => sb1.extBut _ _ (D.ne1 hb).1 e
  rcases l with l | ⟨l1, l2⟩
  · rw [l] at G1
    exact wpAny_bind (N1.done _ _ { s with heap := h1 } _ hh G1 fun h2 e x2 he => fin h2 _ e (fun c o c1 _ c3 _ q => x2 _ _ c3 (sb1.extBut _ _ c1 q)) he)
  · refine wpAny_bind (N1.item _ _ { s with heap := h1 } k _ l1 G1 fun x h2 tk2 p1 st1 sb2 => wpAny_pure (wpAny_pure (wpAny_bind (wpAny_bind (wpAny_holding ?_)))))
    show wpAny _ _ (Builtin.SmallTypes.nextOf (.ref i2) >>= _) _ _ _
    have G2 := N2.frame _ _ h2 g2 fun b hb o e => sb2.extBut _ _ (D.ne2 hb).2.2.2 (sb1.extBut _ _ (D.ne2 hb).1 e)
    rw [l2] at G2
    exact wpAny_bind (N2.done _ _ { s with heap := h2, toks := tk2 } _ hh G2 fun h4 e x4 he => fin h4 _ e (fun c o c1 _ c3 c4 q => x4 _ _ c4 (sb2.extBut _ _ c3 (sb1.extBut _ _ c1 q))) he)
end
end Fp

set_option maxHeartbeats 4000000
/-! Fz3: dict(zip(a, b)), dict(zip(a, range(..))) -/
namespace Fp
open PySem PySem.Spec PyProof.Rows L2
section
variable {P : Program} {w : World} {A : Around} {E : Value → Shared → Prop} {s : Shared} {z TI TO i1 i2 : Addr} {f1 f2 : List Addr} {n1 n2 k : Nat} {v1 v2 : Nat → Value → Prop} {S1 S2 : Nat → Heap → Prop}
theorem zPair (D : ZA z TI TO i1 i2 f1 f2) (N1 : NSrc P w i1 f1 n1 v1 S1) (N2 : NSrc P w i2 f2 n2 v2 S2) :
    PairArg P w "zip" z (z :: TI :: TO :: (f1 ++ f2)) [z, TO, i1, i2] (min n1 n2) (fun i k v => v1 i k ∧ v2 i v) (fun h => IsZip h z TI TO .none ∧ IsPair h TI (.ref i1) (.ref i2) ∧ (∃ a b, IsPair h TO a b) ∧ S1 0 h ∧ S2 0 h) where
  type := fun s ok => ⟨_, ok.1, rfl⟩
  notDict := by decide
  keep := fun h h2 ⟨a, b, ⟨x, y, c⟩, g1, g2⟩ f => ⟨f _ _ a, f _ _ b, ⟨x, y, f _ _ c⟩, N1.frame _ _ _ g1 fun b _ o e => f b o e, N2.frame _ _ _ g2 fun b _ o e => f b o e⟩
  there := fun h ⟨a, b, ⟨x, y, c⟩, g1, g2⟩ q hq => by
    simp only [List.mem_cons, List.mem_append] at hq
    rcases hq with rfl | rfl | rfl | hq | hq
    · exact ⟨_, a⟩
    · exact ⟨_, b⟩
    · exact ⟨_, c⟩
    · exact N1.there _ _ g1 q hq
    · exact N2.there _ _ g2 q hq
  sub := fun b hb => by
    simp only [List.mem_cons, List.not_mem_nil, or_false] at hb
    simp only [List.mem_cons, List.mem_append]
    rcases hb with rfl | rfl | rfl | rfl
    · exact .inl rfl
    · exact .inr (.inr (.inl rfl))
    · exact .inr (.inr (.inr (.inl D.m1)))
    · exact .inr (.inr (.inr (.inr D.m2)))
  noKeys := fun A s Q E hA ok h => getAttrOr_miss_zip ok.1 rfl rfl rfl zip_no_keys (by decide +kernel) hA h
  iter := fun A s d Q E hA ok hd hdf h => by
    obtain ⟨hz, hI, ⟨a, b, hO⟩, g1, g2⟩ := ok
    simp only [List.mem_cons, List.mem_append, not_or] at hdf
    obtain ⟨dz, dI, dO, d1, d2⟩ := hdf
    have di1 : d ≠ i1 := fun e => d1 (e ▸ D.m1)
    have di2 : d ≠ i2 := fun e => d2 (e ▸ D.m2)
    have e1 := D.ne1 D.m1
    have e2 := D.ne2 D.m2
    refine wpAny_pyIter_zip hz (h z [z, TO, i1, i2] (fun i h => IsPair h TI (.ref i1) (.ref i2) ∧ S1 i h ∧ S2 i h ∧
      ((IsZip h z TI TO .none ∧ ∃ a b, IsPair h TO a b) ∨ ∃ T f oT, IsZipHeld h z TI TO T f ∧ h.get? T = some oT ∧ T ≠ z ∧ T ≠ TO ∧ T ≠ i1 ∧ T ≠ i2 ∧ T ≠ d)) s.heap s.toks ?_
      ⟨hI, g1, g2, .inl ⟨hz, a, b, hO⟩⟩ (fun _ _ e => e) fun b hb => .inl hb)
    exact {
      off := fun hm => by
        simp only [List.mem_cons, List.not_mem_nil, or_false] at hm
        rcases hm with e | e | e | e
        · exact dz e
        · exact dO e
        · exact di1 e
        · exact di2 e
      frame := fun i h1 h2 ⟨a, g1, g2, c⟩ f => by
        refine ⟨f _ _ (Ne.symm dI) a, N1.frame _ _ _ g1 fun b hb o e => f b o (fun q => d1 (q ▸ hb)) e, N2.frame _ _ _ g2 fun b hb o e => f b o (fun q => d2 (q ▸ hb)) e, ?_⟩
        rcases c with ⟨hz, x, y, hO⟩ | ⟨T, g, oT, hz, hT, r⟩
        · exact .inl ⟨f _ _ (Ne.symm dz) hz, x, y, f _ _ (Ne.symm dO) hO⟩
        · exact .inr ⟨T, g, oT, f _ _ (Ne.symm dz) hz, f _ _ r.2.2.2.2 hT, r⟩
      item := fun i s1 Q1 E1 hi ⟨hI, g1, g2, c⟩ hds hQ => by
        have l1 : i < n1 := Nat.lt_of_lt_of_le hi (Nat.min_le_left ..)
        have l2 : i < n2 := Nat.lt_of_lt_of_le hi (Nat.min_le_right ..)
        have lt : ∀ {c : Addr}, (∃ o, s1.heap.get? c = some o) → s1.heap.objs.size ≠ c := fun ⟨o, e⟩ => Nat.ne_of_gt (Heap.lt_size e)
        have x1 := lt (N1.there _ _ g1 i1 D.m1)
        have x2 := lt (N2.there _ _ g2 i2 D.m2)
        rcases c with ⟨hz, a, b, hO⟩ | ⟨T, f, oT, hz, hT, r1, r0, r2, r3, r4⟩
        · have ty : s1.TypeIs (.ref z) "zip" := ⟨_, hz, rfl⟩
          unfold pyNext
          refine wpAny_bind (wpAny_attempt (wpAny_callSpecial?_slot (name := Str.ofString "__next__") ty F.slot_zip_next (wpAny_call_entry F.slot_zip_next ty F.entry_zip_next
            (zItem D N1 N2 hz hI hO g1 g2 l1 l2 fun h2 tk x y p1 p2 Z F1 F2 T2 K => wpAny_pure ?_) (F.args_zip_next_1 _))))
          exact hQ s1.heap.objs.size x y h2 tk ⟨p1, p2⟩ (.inl ⟨_, T2, rfl, _, rfl⟩) ⟨K _ _ D.tz D.to (fun e => D.t1 (e ▸ D.m1)) (fun e => D.t2 (e ▸ D.m2)) hI, F1, F2, .inr ⟨s1.heap.objs.size, false, _, Z, T2, lt ⟨_, hz⟩, lt ⟨_, hO⟩, x1, x2, Nat.ne_of_gt hds⟩⟩
            fun c o hc e => K c o (fun q => hc (by simp [q])) (fun q => hc (by simp [q])) (fun q => hc (by simp [q])) (fun q => hc (by simp [q])) e
        · have ty : s1.TypeIs (.ref z) "zip" := ⟨_, hz, rfl⟩
          unfold pyNext
          refine wpAny_bind (wpAny_attempt (wpAny_callSpecial?_slot (name := Str.ofString "__next__") ty F.slot_zip_next (wpAny_call_entry F.slot_zip_next ty F.entry_zip_next
            (zHeld D N1 N2 hz hT hI g1 g2 l1 l2 fun h2 tk x y p1 p2 Z F1 F2 T2 K _ => wpAny_pure ?_) (F.args_zip_next_1 _))))
          exact hQ s1.heap.objs.size x y h2 tk ⟨p1, p2⟩ (.inl ⟨_, T2, rfl, _, rfl⟩) ⟨K _ _ D.tz D.to (fun e => D.t1 (e ▸ D.m1)) (fun e => D.t2 (e ▸ D.m2)) hI, F1, F2, .inr ⟨T, true, oT, Z, K _ _ r1 r0 r2 r3 hT, r1, r0, r2, r3, r4⟩⟩
            fun c o hc e => K c o (fun q => hc (by simp [q])) (fun q => hc (by simp [q])) (fun q => hc (by simp [q])) (fun q => hc (by simp [q])) e
      done := fun s1 Q1 E1 ⟨hI, g1, g2, c⟩ hQ => by
        have l : min n1 n2 = n1 ∨ (min n1 n2 < n1 ∧ min n1 n2 = n2) := by omega
        rcases c with ⟨hz, a, b, hO⟩ | ⟨T, f, oT, hz, hT, r1, r0, r2, r3, r4⟩
        · have ty : s1.TypeIs (.ref z) "zip" := ⟨_, hz, rfl⟩
          unfold pyNext
          refine wpAny_bind (wpAny_attempt (wpAny_callSpecial?_slot (name := Str.ofString "__next__") ty F.slot_zip_next (wpAny_call_entry F.slot_zip_next ty F.entry_zip_next
            (zEnd (A := A.in1) hA D N1 N2 hz hI hO g1 g2 l fun h2 tk e K he => ?_) (F.args_zip_next_1 _))))
          obtain ⟨o, q, c⟩ := he
          refine wpAny_bind (wpAny_isInstance (T := "StopIteration") (b := true) ⟨o, q, c⟩ isSubtype_stop ?_)
          exact wpAny_pure (hQ _ _ fun c o hc e => K c o (fun q => hc (by simp [q])) (fun q => hc (by simp [q])) (fun q => hc (by simp [q])) (fun q => hc (by simp [q])) e)
        · have ty : s1.TypeIs (.ref z) "zip" := ⟨_, hz, rfl⟩
          unfold pyNext
          refine wpAny_bind (wpAny_attempt (wpAny_callSpecial?_slot (name := Str.ofString "__next__") ty F.slot_zip_next (wpAny_call_entry F.slot_zip_next ty F.entry_zip_next
            (zEndHeld (A := A.in1) hA D N1 N2 hz hT hI g1 g2 l fun h2 tk e K he => ?_) (F.args_zip_next_1 _))))
          obtain ⟨o, q, c⟩ := he
          refine wpAny_bind (wpAny_isInstance (T := "StopIteration") (b := true) ⟨o, q, c⟩ isSubtype_stop ?_)
          exact wpAny_pure (hQ _ _ fun c o hc e => K c o (fun q => hc (by simp [q])) (fun q => hc (by simp [q])) (fun q => hc (by simp [q])) (fun q => hc (by simp [q])) e) }
/-- dict(..) of pairs whose values are known up to their tokens -/
theorem dictPairs {T : String} {a : Addr} {fp wr : List Addr} {n : Nat} {Rel : Nat → Value → Value → Prop} {OK : Heap → Prop} (Pa : PairArg P w T a fp wr n Rel OK) (hh : A.handled = none) (ok : OK s.heap) {us : List (Key × V)} (hn : us.length = n) (hz : n ≤ sizeLine)
    (rel : ∀ i k v, i < n → Rel i k v → ∃ kk vv, us[i]? = some (kk, vv) ∧ RelV (kV kk) k ∧ RelV vv v) {Q : Value → Shared → Prop}
    (fin : ∀ h2 tk vs, KV (mergeK [] us) vs → h2.DictOf (mixKind P w) s.heap.objs.size vs → (∀ b o, b ∉ wr → s.heap.get? b = some o → h2.get? b = some o) → Q (.ref s.heap.objs.size) { s with heap := h2, toks := tk }) :
    wpAny (model P w) A (call (.type "dict") [.ref a]) Q E s := by
  refine call_dict_arg Pa ok fun s1 hs1 hdf ok1 => ?_
  subst hs1
  refine updateFrom_arg (A := A.in1) (Tab := fun i h => ∃ vs, KV (mergeK [] (us.take i)) vs ∧ h.DictOf (mixKind P w) s.heap.objs.size vs) Pa .none hh ok1 hdf ⟨[], .nil, Heap.DictOf.new s.heap⟩ (fun _ _ ⟨_, _, tb⟩ => tb.lt_size) (fun i h h2 wr2 hd _ ⟨vs, r, tb⟩ hk => ⟨vs, r, tb.at' fun o e => hk _ o hd e⟩) ?_ ?_
  · intro i key v s2 Q2 E2 hi hrel ⟨vs, r, tb⟩ _ hQ
    obtain ⟨kk, vv, e, rk, rv⟩ := rel i key v hi hrel
    have hlen : vs.length ≤ n := by
      have h1 := length_mergeK (us.take i) []
      rw [← r.length]
      rw [List.length_take] at h1
      simp only [List.length_nil] at h1
      omega
    refine wpAny_dictSet_pairs (hsz := Nat.le_trans hlen hz) (kV_is rk) tb fun h2 tb2 sb => hQ h2 _ ⟨_, ?_, tb2⟩ sb
    have e2 : mergeK [] (us.take (i + 1)) = putK (mergeK [] (us.take i)) kk vv := by
      unfold mergeK
      rw [List.take_add_one, e, Option.toList_some, List.foldl_append, List.foldl_cons, List.foldl_nil]
    rw [e2]
    exact r.put kk rv
  · intro h2 tk ⟨vs, r, tb⟩ hk
    rw [List.take_of_length_le (Nat.le_of_eq hn)] at r
    exact ⟨rfl, fin h2 tk vs r tb fun b o hw e => hk b o (Nat.ne_of_lt (Heap.lt_size e)) hw (Heap.get?_push_of_some _ e)⟩
end
end Fp

set_option maxHeartbeats 4000000
/-! Fz4: dict(zip(names, range(..))) in a def -/
namespace Fp
open PySem PySem.Spec PyProof.Rows L2
abbrev zrH1 (h : Heap) (l : Addr) : Heap := h.push { cls := .type "tuple_iterator", data := .fields #[.ref l, .int 0 0] }
abbrev zrH2 (h : Heap) (l : Addr) (lo hi : Int) : Heap := (zrH1 h l).push { cls := .type "range_iterator", data := .fields #[rawInt lo, rawInt (Builtin.Range.rangeSize lo hi 1), rawInt 1] }
abbrev zrH3 (h : Heap) (l : Addr) (lo hi : Int) : Heap := (zrH2 h l lo hi).push { cls := .type "tuple", data := .seq #[.ref h.objs.size, .ref (zrH1 h l).objs.size] }
abbrev zrH4 (h : Heap) (l : Addr) (lo hi : Int) : Heap := (zrH3 h l lo hi).push { cls := .type "tuple", data := .seq #[.none, .none] }
abbrev zrH5 (h : Heap) (l : Addr) (lo hi : Int) : Heap := (zrH4 h l lo hi).push { cls := .type "zip", data := .fields #[.none, .bool false, .bool false, .ref (zrH2 h l lo hi).objs.size, .ref (zrH3 h l lo hi).objs.size] }
theorem meets_zr (l r : Addr) (xs : Array Value) (lo hi : Int) (t u v : Tok) (sm : Builtin.Range.small lo hi 1 = true) :
    Meets (Builtin.«zip.__new__» ⟨[.type "zip", .ref l, .ref r], []⟩) (fun _ R s => s.heap.IsTuple l xs ∧ IsRange s.heap r lo hi 1 t u v ∧
      R (.ok (.ret (.ref (zrH4 s.heap l lo hi).objs.size))) { s with heap := zrH5 s.heap l lo hi }) :=
  .of_wp fun prog w A R s h => by
    obtain ⟨hp, g, d, tk, os⟩ := s; obtain ⟨hl1, hl2, h⟩ := h
    have hsub := sub_zip
    have hL1 : Heap.IsTuple (Shared.heap ⟨hp, g, d, tk, os⟩) l xs := hl1
    have hL2 : IsRange (Shared.heap ⟨hp.push { cls := .type "tuple_iterator", data := .fields #[.ref l, .int 0 0] }, g, d, tk, os⟩) r lo hi 1 t u v := Heap.get?_push_of_some _ hl2
    wp_walk using wpAny_pyIter_tuple hL1, wpAny_pyIter_range hL2 sm
    exact ⟨_, rfl, h⟩
section
variable {P : Program} {w : World} {A : Around} {E : Value → Shared → Prop} {s : Shared}
theorem call_zr {l r : Addr} {xs : Array Value} {lo hi : Int} {t u v : Tok} {Q : Value → Shared → Prop} (hl : s.heap.IsTuple l xs) (hr : IsRange s.heap r lo hi 1 t u v) (sm : Builtin.Range.small lo hi 1 = true)
    (h : ∀ h', IsZip h' (s.heap.objs.size + 4) (s.heap.objs.size + 2) (s.heap.objs.size + 3) .none → IsPair h' (s.heap.objs.size + 2) (.ref s.heap.objs.size) (.ref (s.heap.objs.size + 1)) →
      IsPair h' (s.heap.objs.size + 3) .none .none → h'.IsTupleIter s.heap.objs.size l 0 → IsRangeIter h' (s.heap.objs.size + 1) lo (Builtin.Range.rangeSize lo hi 1) 1 →
      (∀ c o, s.heap.get? c = some o → h'.get? c = some o) → Q (.ref (s.heap.objs.size + 4)) { s with heap := h' }) :
    wpAny (model P w) A (call (.type "zip") [.ref l, .ref r]) Q E s := by
  refine callType_new F.called_zip (by decide) (F.typeCall_zip_2 _ _) (F.newCall_zip_2 _ _) (fun obj => F.args_object_init_3 obj _ _) F.entry_zip_new (meets_zr l r xs lo hi t u v sm) ⟨hl, hr, ?_⟩
  have z1 : (zrH1 s.heap l).objs.size = s.heap.objs.size + 1 := Heap.size_push ..
  have z2 : (zrH2 s.heap l lo hi).objs.size = s.heap.objs.size + 2 := by rw [Heap.size_push, z1]
  have z3 : (zrH3 s.heap l lo hi).objs.size = s.heap.objs.size + 3 := by rw [Heap.size_push, z2]
  have z4 : (zrH4 s.heap l lo hi).objs.size = s.heap.objs.size + 4 := by rw [Heap.size_push, z3]
  have g5 : (zrH5 s.heap l lo hi).get? (zrH4 s.heap l lo hi).objs.size = some _ := Heap.get?_push_size _ rfl
  have g4 : (zrH5 s.heap l lo hi).get? (zrH3 s.heap l lo hi).objs.size = some _ := Heap.get?_push_of_some _ (Heap.get?_push_size _ rfl)
  have g3 : (zrH5 s.heap l lo hi).get? (zrH2 s.heap l lo hi).objs.size = some _ := Heap.get?_push_of_some _ (Heap.get?_push_of_some _ (Heap.get?_push_size _ rfl))
  have g2 : (zrH5 s.heap l lo hi).get? (zrH1 s.heap l).objs.size = some _ := Heap.get?_push_of_some _ (Heap.get?_push_of_some _ (Heap.get?_push_of_some _ (Heap.get?_push_size _ rfl)))
  have g1 : (zrH5 s.heap l lo hi).get? s.heap.objs.size = some _ := Heap.get?_push_of_some _ (Heap.get?_push_of_some _ (Heap.get?_push_of_some _ (Heap.get?_push_of_some _ (Heap.get?_push_size _ rfl))))
  show _ ∧ _
  rw [z2, z3, z4] at g5
  rw [z1, z2] at g3
  rw [z3] at g4
  rw [z1] at g2
  rw [z4]
  exact ⟨⟨_, g5, rfl⟩, h _ g5 g3 g4 ⟨_, g1, rfl, rfl⟩ g2 fun c o x => Heap.get?_push_of_some _ (Heap.get?_push_of_some _ (Heap.get?_push_of_some _ (Heap.get?_push_of_some _ (Heap.get?_push_of_some _ x))))⟩
end
theorem off2 (a n l : Nat) (h1 : a ≠ n) (h2 : a ≠ l) : (a : Addr) ∉ ([n, l] : List Addr) := by simp [h1, h2]
theorem off1 (a n : Nat) (h1 : a ≠ n) : (a : Addr) ∉ ([n] : List Addr) := by simp [h1]
theorem neA (a n : Nat) (h1 : a ≠ n) : (a : Addr) ≠ (n : Addr) := h1
theorem za_at (n l : Nat) (hl : l < n) : ZA (n + 4) (n + 2) (n + 3) n (n + 1) [n, l] [n + 1] := by
  refine ⟨List.mem_cons_self, List.mem_cons_self, neA _ _ ?_, neA _ _ ?_, neA _ _ ?_, off2 _ _ _ ?_ ?_, off1 _ _ ?_, off2 _ _ _ ?_ ?_, off1 _ _ ?_, off2 _ _ _ ?_ ?_, off1 _ _ ?_, off1 _ _ ?_, off2 _ _ _ ?_ ?_⟩ <;> omega
theorem keysD_rep {κ : KK} {φ : List Addr} {H : Hp} : ∀ {ds : List D} {ks : List Key} {vs : List V}, keysD ds = some ks → Reps κ φ H ds vs → vs = ks.map kV
  | [], ks, vs, h, r => by
    cases h
    exact r
  | d :: ds, ks, vs, h, r => by
    unfold keysD at h
    split at h
    · rename_i k ks' h1 h2
      cases h
      obtain ⟨v, r', rfl, q1, q2⟩ := r
      rw [keyD_rep h1 q1, keysD_rep h2 q2]
      rfl
    · cases h
def uptoV (lo : Int) (n : Nat) : List V := (List.range n).map fun (i : Nat) => V.int (lo + (i : Int))
theorem kv_zip {κ : KK} {φ : List Addr} {H : Hp} (lo : Int) (n : Nat) (ks : List Key) : KvR κ φ H (ks.zip (upto lo n)) (ks.zip (uptoV lo n)) := by
  have hv : ∀ l : List Nat, Reps κ φ H (l.map fun (i : Nat) => D.int (lo + (i : Int))) (l.map fun (i : Nat) => V.int (lo + (i : Int))) := fun l => by
    induction l with
    | nil => rfl
    | cons i l ih => exact ⟨_, _, rfl, rfl, ih⟩
  unfold upto uptoV
  generalize List.range n = l
  induction ks generalizing l with
  | nil => exact KvR.nil
  | cons k ks ih =>
    cases l with
    | nil => exact KvR.nil
    | cons i l => exact KvR.cons (d := .int _) (v := .int _) rfl (ih l)
section
variable {X : Cx} {ψ : List Addr}
theorem dz_core {pins : List (Addr × Obj)} {σ : L2.St} {H : Hp} {s : Shared} {Q : VK} {φ : List Addr} {m : Mem} {al : Bool} {ds : List D} {ks : List Key} {l r : Addr} {vs : List V} {lo hi : Int} {t u v : Tok} (hc : X.calm = true) (I : Inv X pins σ H s) (M : MRep (kk X ψ) φ H m) (hl : SqT X.K H l vs) (rv : Reps (kk X ψ) φ H ds vs)
    (hr : IsRange s.heap r lo hi 1 t u v) (s1 : smallI lo = true) (s2 : smallI hi = true) (hk : keysD ds = some ks) (p : PoE (kk X ψ) φ H Q (mkD al (dMerge [] (ks.zip (upto lo (hi - lo).toNat))) m)) :
    wpAny (model X.prog X.w) X.A (call (.type "zip") [.ref l, .ref r]) (fun zv s' => wpAny (model X.prog X.w) X.A (call (.type "dict") [zv]) (EP X pins σ Q) X.xe s') X.xe s := by
  unfold smallI at s1 s2
  rw [Bool.and_eq_true] at s1 s2
  have b1 := of_decide_eq_true s1.1
  have b2 := of_decide_eq_true s1.2
  have b3 := of_decide_eq_true s2.1
  have b4 := of_decide_eq_true s2.2
  obtain ⟨its, rvs, tup, hz⟩ := I.tuple hl
  obtain rfl := keysD_rep hk rv
  have hll : l < s.heap.objs.size := by
    obtain ⟨o, ho, _⟩ := (show s.heap.IsTuple l its.toArray from tup)
    exact Heap.lt_size ho
  refine call_zr (show s.heap.IsTuple l its.toArray from tup) hr (small_one b1 b2 b3 b4) fun h1 Z TI TO it rg kp => ?_
  have ne : l ≠ s.heap.objs.size := Nat.ne_of_lt hll
  have N1 := NSrc.tup (P := X.prog) (w := X.w) s.heap.objs.size l ne its.toArray
  have N2 := NSrc.rng (P := X.prog) (w := X.w) (s.heap.objs.size + 1) lo (hi - lo).toNat
  have rg' : IsRangeIter h1 (s.heap.objs.size + 1) (lo + ((0 : Nat) : Int)) ((((hi - lo).toNat : Nat) : Int) - ((0 : Nat) : Int)) 1 := by
    have e1 : lo + ((0 : Nat) : Int) = lo := by omega
    have e2 : (((hi - lo).toNat : Nat) : Int) - ((0 : Nat) : Int) = Builtin.Range.rangeSize lo hi 1 := by rw [rangeSize_one]; split <;> omega
    rw [e1, e2]
    exact rg
  have Pa := zPair (za_at s.heap.objs.size l hll) N1 N2
  have hkl : its.length = ks.length := by rw [← rvs.length, List.length_map]
  have hlen : (ks.zip (uptoV lo (hi - lo).toNat)).length = min its.toArray.size (hi - lo).toNat := by
    rw [List.length_zip, List.size_toArray, hkl]
    unfold uptoV
    rw [List.length_map, List.length_range]
  have hsz : min its.toArray.size (hi - lo).toNat ≤ sizeLine := by
    have : its.toArray.size ≤ sizeLine := by
      rw [List.size_toArray, ← rvs.length]
      exact hz
    omega
  refine dictPairs (s := { s with heap := h1 }) Pa (I.ok.hd hc) ⟨Z, TI, ⟨_, _, TO⟩, ⟨it, by
    obtain ⟨o, ho, c1, c2⟩ := (show s.heap.IsTuple l its.toArray from tup)
    exact ⟨o, kp _ _ ho, c1, c2⟩⟩, rg'⟩ hlen hsz (fun i k v hin ⟨e1, t, e2⟩ => ?_) fun h2 tk ws rw' dd kp2 => ?_
  · have hi2 : its[i]? = some k := by simpa using e1
    have hit : i < its.length := (List.getElem?_eq_some_iff.mp hi2).1
    have hik : i < ks.length := by omega
    obtain ⟨w1, hw, r1⟩ := rvs.get (i := i) (x := kV ks[i]) (by rw [List.getElem?_map, List.getElem?_eq_getElem hik]; rfl)
    have e3 : w1 = k := by
      rw [hi2] at hw
      exact (Option.some.inj hw).symm
    have hn : i < (hi - lo).toNat := Nat.lt_of_lt_of_le hin (Nat.min_le_right ..)
    refine ⟨ks[i], .int (lo + (i : Int)), ?_, by rw [← e3]; exact r1, ⟨t, e2⟩⟩
    rw [List.getElem?_zip_eq_some]
    refine ⟨List.getElem?_eq_getElem _, ?_⟩
    unfold uptoV
    rw [List.getElem?_map, List.getElem?_range hn]
    rfl
  · have hn2 : H h1.objs.size = none := I.hok.fresh (by
      have := Heap.lt_size Z
      exact Nat.le_of_lt (Nat.lt_of_le_of_lt (Nat.le_add_right _ _) this))
    have km := KvR.merge (kv_zip (κ := kk X ψ) (φ := φ) (H := H) lo (hi - lo).toNat ks) KvR.nil
    obtain ⟨z1, q⟩ := mkD_new p M km
    have lo1 : (h1.objs.size == sysModules) = false := beq_eq_false_iff_ne.mpr (Ne.symm (Nat.ne_of_lt (Nat.lt_of_lt_of_le I.big (by
      have := Heap.lt_size Z
      exact Nat.le_of_lt (Nat.lt_of_le_of_lt (Nat.le_add_right _ _) this)))))
    refine ⟨.ref h1.objs.size, _, I.laid (a := h1.objs.size) (t' := tk) (fun b o e => kp2 b o (fun hb => ?_) (kp b o e)) ?_ (dk_new z1 lo1 rw' dd), rfl, q _ hn2⟩
    · have hb2 := Heap.lt_size e
      simp only [List.mem_cons, List.not_mem_nil, or_false] at hb
      rcases hb with rfl | rfl | rfl | rfl
      · exact absurd hb2 (Nat.not_lt.mpr (Nat.le_add_right _ _))
      · exact absurd hb2 (Nat.not_lt.mpr (Nat.le_add_right _ _))
      · exact absurd hb2 (Nat.lt_irrefl _)
      · exact absurd hb2 (Nat.not_lt.mpr (Nat.le_add_right _ _))
    · have := Heap.lt_size Z
      exact Nat.le_of_lt (Nat.lt_of_le_of_lt (Nat.le_add_right _ _) this)
end
end Fp
namespace Fp
open PySem PySem.Spec PyProof.Rows L2
section
variable {X : Cx} {cx : Cxt} {ψ : List Addr} {al : Bool} {a b c : Expr} {p p2 p3 q q2 q3 : Pos} {A B C : SE}
theorem rep_int {κ : KK} {φ : List Addr} {H : Hp} {i : Int} {v : V} {u : Value} (r : Rep κ φ H (.int i) v) (ru : RelV v u) : ∃ t, u = .int i t := by
  obtain rfl : v = .int i := r
  exact ru
theorem pe_dz2 (hc : X.calm = true) (g1 : Gl X "dict") (m1 : X.mg "dict" = none) (g2 : Gl X "zip") (m2 : X.mg "zip" = none) (g3 : Gl X "range") (m3 : X.mg "range" = none) (ha : PE X a (tE (kk X ψ) cx A)) (hb : PE X b (tE (kk X ψ) cx B)) (hcc : PE X c (tE (kk X ψ) cx C)) (sa : notStar a = true) (sb : notStar b = true) (sc : notStar c = true) :
    PE X (.Call (.Name "dict" p) [.Call (.Name "zip" p2) [a, .Call (.Name "range" p3) [b, c] [] q3] [] q2] [] q) (tE (kk X ψ) cx (sApp (biDZ2 al) (sCons A (sCons B (sCons C sNil))))) := by
  refine ⟨fun pins s σ H Q I h => ?_⟩
  obtain ⟨φ, ρ, m, fr, M, pp⟩ := t_bi h
  have hA := t_cons (show tA (kk X ψ) cx (sCons A (sCons B (sCons C sNil))) σ H _ from ⟨φ, ρ, m, fr, M, pp⟩)
  have ta0 : starEach [c] X.env = (false, eval c X.env) :: starEach [] X.env := star_cons sc
  have tb0 : starEach [b, c] X.env = (false, eval b X.env) :: starEach [c] X.env := star_cons sb
  have any1 : (backTo q3 (starEach [c] X.env)).any (·.1) = false := back_any (by simp [sc])
  refine Call_ (ld_blt I g1 m1 boot_dict (PyProof.Rows.callWith_type1 (PyProof.Rows.args_cons (Call_ (ld_blt I g2 m2 PyProof.Rows.boot_zip (PyProof.Rows.callWith_type1 (PyProof.Rows.args_cons ?_ (star_cons sa)) (star_cons sa) rfl))) rfl) rfl rfl))
  refine thn (ha.run pins s σ H _ I hA) fun u s1 ⟨x, H1, I1, r1, q1⟩ => PyProof.Rows.args_cons (Call_ (ld_blt I1 g3 m3 PyProof.Rows.boot_range (PyProof.Rows.callWith_type1 (PyProof.Rows.args_cons ?_ tb0) tb0 any1))) rfl
  refine thn (hb.run pins s1 σ H1 _ I1 (t_cons q1)) fun u2 s2 ⟨y, H2, I2, r2, q2⟩ => PyProof.Rows.args_cons ?_ ta0
  refine thn (hcc.run pins s2 σ H2 _ I2 (t_cons q2)) fun u3 s3 ⟨z, H3, I3, r3, q3⟩ => PyProof.Rows.args_nil ?_
  obtain ⟨φ3, m3, ds, M3, rs, p3⟩ := t_nil q3
  unfold biDZ2 at p3
  split at p3
  · rename_i dx lo hi
    obtain ⟨v1, r', e1, k1, rest⟩ := rs
    obtain ⟨v2, v3, e2, k2, k3⟩ := Reps.two rest
    rw [e2] at e1
    cases e1
    obtain ⟨t2, rfl⟩ := rep_int k2 r2
    obtain ⟨t3, rfl⟩ := rep_int k3 r3
    unfold biDZ at p3
    split at p3
    · rename_i es
      split at p3
      · rename_i hs
        rw [Bool.and_eq_true] at hs
        split at p3
        · rename_i ks hk
          obtain ⟨ad, vs, rfl, hq, rv⟩ := k1
          cases r1
          refine call_range_2 (PyProof.Rows.args_nil ?_)
          have I4 : Inv X pins σ H3 { s3 with heap := s3.heap.push { cls := .type "range", data := .fields #[.int lo t2, .int hi t3, .int 1 s3.toks] }, toks := s3.toks + 1 } := I3.kept (t' := s3.toks + 1) fun b o e => Heap.get?_push_of_some _ e
          exact thn (dz_core hc I4 M3 hq rv (Heap.get?_push_size _ rfl) hs.1 hs.2 hk p3) fun zv s' h => PyProof.Rows.args_nil h
        · exact p3.elim
      · exact p3.elim
    · exact p3.elim
  · exact p3.elim
theorem pe_dz1 (hc : X.calm = true) (g1 : Gl X "dict") (m1 : X.mg "dict" = none) (g2 : Gl X "zip") (m2 : X.mg "zip" = none) (g3 : Gl X "range") (m3 : X.mg "range" = none) (ha : PE X a (tE (kk X ψ) cx A)) (hb : PE X b (tE (kk X ψ) cx B)) (sa : notStar a = true) (sb : notStar b = true) :
    PE X (.Call (.Name "dict" p) [.Call (.Name "zip" p2) [a, .Call (.Name "range" p3) [b] [] q3] [] q2] [] q) (tE (kk X ψ) cx (sApp (biDZ1 al) (sCons A (sCons B sNil)))) := by
  refine ⟨fun pins s σ H Q I h => ?_⟩
  obtain ⟨φ, ρ, m, fr, M, pp⟩ := t_bi h
  have hA := t_cons (show tA (kk X ψ) cx (sCons A (sCons B sNil)) σ H _ from ⟨φ, ρ, m, fr, M, pp⟩)
  have tb0 : starEach [b] X.env = (false, eval b X.env) :: starEach [] X.env := star_cons sb
  refine Call_ (ld_blt I g1 m1 boot_dict (PyProof.Rows.callWith_type1 (PyProof.Rows.args_cons (Call_ (ld_blt I g2 m2 PyProof.Rows.boot_zip (PyProof.Rows.callWith_type1 (PyProof.Rows.args_cons ?_ (star_cons sa)) (star_cons sa) rfl))) rfl) rfl rfl))
  refine thn (ha.run pins s σ H _ I hA) fun u s1 ⟨x, H1, I1, r1, q1⟩ => PyProof.Rows.args_cons (Call_ (ld_blt I1 g3 m3 PyProof.Rows.boot_range (PyProof.Rows.callWith_type1 (PyProof.Rows.args_cons ?_ tb0) tb0 rfl))) rfl
  refine thn (hb.run pins s1 σ H1 _ I1 (t_cons q1)) fun u2 s3 ⟨y, H3, I3, r2, q3⟩ => PyProof.Rows.args_nil ?_
  obtain ⟨φ3, m3, ds, M3, rs, p3⟩ := t_nil q3
  unfold biDZ1 at p3
  split at p3
  · rename_i dx hi
    obtain ⟨v1, v2, e1, k1, k2⟩ := Reps.two rs
    cases e1
    obtain ⟨t2, rfl⟩ := rep_int k2 r2
    unfold biDZ at p3
    split at p3
    · rename_i es
      split at p3
      · rename_i hs
        rw [Bool.and_eq_true] at hs
        split at p3
        · rename_i ks hk
          obtain ⟨ad, vs, rfl, hq, rv⟩ := k1
          cases r1
          refine call_range_1 (PyProof.Rows.args_nil ?_)
          have I4 : Inv X pins σ H3 { s3 with heap := s3.heap.push { cls := .type "range", data := .fields #[.int 0 s3.toks, .int hi t2, .int 1 (s3.toks + 1)] }, toks := s3.toks + 1 + 1 } := I3.kept (t' := s3.toks + 1 + 1) fun b o e => Heap.get?_push_of_some _ e
          exact thn (dz_core hc I4 M3 hq rv (Heap.get?_push_size _ rfl) hs.1 hs.2 hk p3) fun zv s' h => PyProof.Rows.args_nil h
        · exact p3.elim
      · exact p3.elim
    · exact p3.elim
  · exact p3.elim
end
end Fp

set_option maxHeartbeats 4000000
/-! Fp11: the meaning of a text is what the machine does: expressions -/
namespace Fp
open PySem PySem.Spec PyProof.Rows L2 RZ

/-- a def's promise: it does what the oracle says -/
def spD (K : PySem.W.Frag) (c : Cxt) (x : Str) : Sp := fun vs H Q _ => ∃ ψ φ m ds, MRep ⟨K, ψ⟩ φ H m ∧ Reps ⟨K, ψ⟩ φ H ds vs ∧ PoE ⟨K, ψ⟩ φ H Q (c.orc x ds m)
/-- the context is that of the text -/
structure Good (X : Cx) (S : Sta) (c : Cxt) : Prop where
  N : X.N = S.N
  nd : S.N.Nodup
  sc : X.env.scope = S.sc
  fk : S.sc.kind = .function
  fn : ∀ x, S.fnc x = true → X.fn x = true
  calm : X.calm = true
  un : X.A.units + 200 < cLine
  bi : ∀ x, S.bis.contains x = true → X.mg x = none
  ks : ∀ x z, S.ks.lookup x = some z → ∃ u, X.mg x = some u ∧ RelV (.str z) u
  kd : ∀ x kvs, S.kd.lookup x = some kvs → ∃ d es n, X.mg x = some (.ref d) ∧ KDict X.K X.w d es n ∧ ∀ z, ∃ r, PySem.W.nsIn X.K d z = some r ∧
    match kvs.lookup z with
    | some dv => ∃ u0 v0, r = some u0 ∧ RelV v0 u0 ∧ ∀ ψ φ H, Rep (kk X ψ) φ H dv v0
    | none => r = none
  call : ∀ x np, S.fns.lookup x = some np → ∃ k f fd ps, FnOk X.prog X.w X.K X.mg X.base CX0 k f fd ps (spD X.K c x) ∧ Room k X.A ∧ X.mg x = some (.ref f) ∧ PySem.W.keepIn X.K (.ref f) = true ∧ Binds X.K fd ps []
section
variable {X : Cx} {S : Sta} {c : Cxt}
theorem Good.gl (G : Good X S c) {x : Str} (h : glB S.sc x = true) : Gl X x := by
  show X.env.scope.names.lookup x = _
  rw [G.sc]
  exact gl_of h
theorem Good.vis (G : Good X S c) {x : Str} (h : visB S.sc x = true) : Vis X.env.scope x := by
  rw [G.sc]
  exact vis_of h
theorem Good.loc (G : Good X S c) {x : Str} (h : locB S.sc x = true) : Loc X.env.scope x := by
  rw [G.sc]
  exact loc_of h
theorem Good.at (G : Good X S c) {x : Str} {i : Nat} (h : slotOf S x = some i) : X.N[i]? = some x := by
  rw [G.N]
  exact slot_of h
theorem Good.blk (G : Good X S c) (s : Shared) (H : Hp) (scope : Scope) (hk : scope.kind = .function) (C : Addr) (cl : List (Str × Addr)) (fp : List Addr) : Good (X.blk s H scope (compEnvC scope cl C X.env) fp) (blkS S scope) c where
  N := G.N
  nd := G.nd
  sc := by
    show relabel scope X.env = relS scope S.sc
    rw [← G.sc]
    rfl
  fk := hk
  fn := fun _ h => h
  calm := G.calm
  un := G.un
  bi := G.bi
  ks := G.ks
  kd := G.kd
  call := G.call
theorem Good.nox (G : Good X S c) : Good X.nox S c := ⟨G.N, G.nd, G.sc, G.fk, G.fn, G.calm, G.un, G.bi, G.ks, G.kd, G.call⟩

/-! ### what never comes -/
theorem pe_bad {κ : KK} {e : Expr} : PE X e (tE κ c sBad) := ⟨fun _ _ _ _ _ _ h => by
  obtain ⟨_, _, _, _, _, p⟩ := h
  exact p.elim⟩
theorem pt_bad {κ : KK} {e : Expr} : PT X e (tT κ c stBad) := ⟨fun _ _ _ _ _ _ h => by
  obtain ⟨_, _, _, _, _, p⟩ := h
  exact p.elim⟩
theorem pw_bad {κ : KK} {e : Expr} : PW X e (tT κ c stBad) := ⟨fun _ _ _ _ _ _ _ h => by
  obtain ⟨_, _, _, _, _, p⟩ := h
  exact p.elim⟩
theorem pi_bad {κ : KK} {g e : Expr} : PI X g e (tI κ c siBad) := ⟨fun _ _ _ _ _ _ h => by
  obtain ⟨_, _, _, _, _, p⟩ := h
  exact p.elim⟩
theorem pts_bad {κ : KK} {es : List Expr} : PTs X es (tT κ c stBad) := ⟨fun _ _ _ _ _ _ h => by
  obtain ⟨_, _, _, _, _, p⟩ := h
  exact p.elim⟩
theorem ps_bad {κ : KK} {st : Stmt} : PS X st (tS κ c ssBad) := ⟨fun _ _ _ _ _ _ h => by
  obtain ⟨_, _, _, _, _, p⟩ := h
  exact p.elim⟩
theorem pss_bad {κ : KK} {st : List Stmt} : PSs X st (tS κ c ssBad) := ⟨fun _ _ _ _ _ _ h => by
  obtain ⟨_, _, _, _, _, p⟩ := h
  exact p.elim⟩

/-! ### names, constants, operators -/
theorem name_ok (G : Good X S c) {x : Str} {pos : Pos} (ψ : List Addr) : PE X (.Name x pos) (tE (kk X ψ) c (cName S x)) := by
  unfold cName
  split
  · rename_i hk
    obtain ⟨k1, k2, k3⟩ := okN_of hk
    split
    · rename_i hv
      split
      · rename_i i hi
        exact PE.imp (pe_var (G.at hi) (G.vis hv) k1 k2) fun _ _ _ h => t_var h
      · exact pe_bad
    · split
      · rename_i hg
        split
        · rename_i z hz
          obtain ⟨u, hm, r⟩ := G.ks x z hz
          exact PE.imp (pe_glob (G.gl hg) hm r k1) fun _ _ _ h => t_k (d := .str z) (fun _ _ => rfl) h
        · exact pe_bad
      · exact pe_bad
  · exact pe_bad
theorem const_ok {k : Const} {j : Nat} {pos : Pos} (ψ : List Addr) : PE X (.Constant k j pos) (tE (kk X ψ) c (cConst k)) := by
  cases k with
  | none => exact PE.imp pe_non fun _ _ _ h => t_k (d := .non) (fun _ _ => rfl) h
  | bool b => exact PE.imp pe_bl fun _ _ _ h => t_k (d := .bl b) (fun _ _ => rfl) h
  | int i => exact PE.imp pe_int fun _ _ _ h => t_k (d := .int i) (fun _ _ => rfl) h
  | str x => exact PE.imp pe_str fun _ _ _ h => t_k (d := .str x) (fun _ _ => rfl) h
  | _ => exact pe_bad
theorem bop_ok {op : Operator} {f : D → D → Mem → RD} (h : bopOf op = some f) (ψ : List Addr) : OpR X (binaryOp op) (rD (kk X ψ) f) := by
  cases op <;> first | (cases h; done) | (cases h; first | exact or_add | exact or_sub | exact or_mul | exact or_div | exact or_mod | exact or_pow)
theorem cmp_ok (G : Good X S c) {op : CmpOp} {f : D → D → Mem → Option Bool} (h : cmpOf op = some f) (ψ : List Addr) : OpR X (compareOp op) (rD (kk X ψ) (opC f)) := by
  have u := G.un
  cases op <;> cases h
  · exact or_eq (by omega)
  · exact or_ne (by omega)
  · exact or_lt
  · exact or_le
  · exact or_gt
  · exact or_ge
  · exact or_is
  · exact or_isnot
  · exact or_in (by omega)
  · exact or_notin (by omega)
theorem iop_ok {op : Operator} {f : D → D → Mem → RD} (h : iopOf op = some f) (ψ : List Addr) : PIp X op (rD (kk X ψ) f) := by
  cases op <;> first | (cases h; done) | (cases h; first | exact pp_add | exact pp_sub)
theorem neg_ok (ψ : List Addr) : UnR X (unaryOp .USub) (tUnD (kk X ψ) opNeg) := by
  intro pins s σ H x v Q I rx ⟨φ, m, d, M, r, p⟩
  unfold opNeg at p
  split at p
  · obtain rfl : x = .int _ := r
    exact un_neg pins s σ H _ v Q I rx ⟨_, rfl, p.same M rfl⟩
  · exact p.elim
theorem bi_ok (hc : X.calm = true) {al : Bool} {x : Str} {f : List D → Mem → RD} (h : biOf al x = some f) (ψ : List Addr) :
    (∃ id, bootBuiltins x = some (.builtin id) ∧ CallR X (.builtin id) (rB (kk X ψ) f)) ∨ ∃ T, bootBuiltins x = some (.type T) ∧ CallR X (.type T) (rB (kk X ψ) f) := by
  unfold biOf at h
  split at h
  · cases h; subst x; exact .inl ⟨_, boot_len, cb_len⟩
  split at h
  · cases h; subst x; exact .inr ⟨_, PyProof.Rows.boot_tuple, cb_tuple⟩
  split at h
  · cases h; subst x; exact .inr ⟨_, PyProof.Rows.boot_list, cb_list al⟩
  split at h
  · cases h; subst x; exact .inr ⟨_, PyProof.Rows.boot_dict, cb_dict al⟩
  split at h
  · cases h; subst x; exact .inr ⟨_, PyProof.Rows.boot_int, cb_int⟩
  split at h
  · cases h; subst x; exact .inl ⟨_, PyProof.Rows.boot_abs, cb_abs⟩
  split at h
  · cases h; subst x; exact .inl ⟨_, PyProof.Rows.boot_min, cb_min hc⟩
  split at h
  · cases h; subst x; exact .inl ⟨_, PyProof.Rows.boot_max, cb_max hc⟩
  split at h
  · cases h; subst x; exact .inl ⟨_, PyProof.Rows.boot_any, cb_any hc⟩
  split at h
  · cases h; subst x; exact .inl ⟨_, PyProof.Rows.boot_all, cb_all hc⟩
  split at h
  · cases h; subst x; exact .inl ⟨_, PyProof.Rows.boot_sorted, cb_sorted hc⟩
  · cases h
/-- what a method of a built-in type needs -/
structure MtOk (X : Cx) (ψ : List Addr) (name : Str) (g : D → Mem → Bool) (f : D → List D → Mem → RD) (T id : String) : Prop where
  pa : PlainAttrs T
  slot : Slot T name id
  ty : typeOf (.builtin id) = pure (.type "method_descriptor")
  run : MtR X id (rM (kk X ψ) f)
  tyv : ∀ {φ : List Addr} {H : Hp} {m : Mem} {d : D} {v : V}, g d m = true → MRep (kk X ψ) φ H m → Rep (kk X ψ) φ H d v → tyV X.K T v H
theorem mt_ok (G : Good X S c) {x : Str} {n : Nat} {gf : (D → Mem → Bool) × (D → List D → Mem → RD)} (h : mtOf x n = some gf) (ψ : List Addr) : ∃ T id, MtOk X ψ x gf.1 gf.2 T id := by
  have u := G.un
  unfold mtOf at h
  split at h
  · split at h
    · cases h; subst x; exact ⟨_, _, PySem.F.plainAttrs_list, PySem.F.slot_list_pop, PySem.F.type_list_pop, mm_pop, isL_ty⟩
    · cases h
  · split at h
    · cases h; subst x; exact ⟨_, _, PySem.F.plainAttrs_list, PySem.F.slot_list_append, PySem.F.type_list_append, mm_append, isL_ty⟩
    split at h
    · cases h; subst x; exact ⟨_, _, PySem.F.plainAttrs_list, PySem.F.slot_list_extend, PySem.F.type_list_extend, mm_extend, isL_ty⟩
    split at h
    · cases h; subst x; exact ⟨_, _, PySem.F.plainAttrs_dict, PySem.F.slot_dict_get, PySem.F.type_dict_get, mm_get1 (by omega), isDd_ty⟩
    split at h
    · cases h; subst x; exact ⟨_, _, PySem.F.plainAttrs_dict, PySem.F.slot_dict_update, PySem.F.type_dict_update, mm_update, isDd_ty⟩
    · cases h
  · split at h
    · cases h; subst x; exact ⟨_, _, PySem.F.plainAttrs_dict, PySem.F.slot_dict_get, PySem.F.type_dict_get, mm_get2 (by omega), isDd_ty⟩
    · cases h
  · cases h

/-! ### targets -/
theorem nmSlot_ok (G : Good X S c) {e : Expr} {i : Nat} (h : nmSlot S e = some i) : ∃ x pos, e = .Name x pos ∧ X.N[i]? = some x ∧ Loc X.env.scope x ∧ (X.fn x = true ∨ X.env.scope.names.lookup x = some .local) := by
  unfold nmSlot at h
  split at h
  · rename_i x pos
    split at h
    · rename_i hb
      rw [Bool.and_eq_true, Bool.or_eq_true] at hb
      refine ⟨x, pos, rfl, G.at h, G.loc hb.1, ?_⟩
      rcases hb.2 with q | q
      · exact .inl (G.fn x q)
      · refine .inr ?_
        rw [G.sc]
        exact onlyLoc_of q
    · cases h
  · cases h
theorem nmSlots_ok (G : Good X S c) : ∀ {es : List Expr} {is : List Nat}, nmSlots S es = some is → PGs X es (gNames is) ∧ es.length = is.length ∧ (assignEach es X.env).length = is.length ∧ (assignEach es X.env).findIdx? (·.1) = none
  | [], is, h => by
    cases h
    exact ⟨pgs_nil, rfl, rfl, rfl⟩
  | e :: es, is, h => by
    unfold nmSlots at h
    split at h
    · rename_i i is' h1 h2
      cases h
      obtain ⟨x, pos, rfl, hi, hx, hf⟩ := nmSlot_ok G h1
      obtain ⟨p, l0, l1, l2⟩ := nmSlots_ok G h2
      refine ⟨pgs_cons (pg_name (by rw [G.N]; exact G.nd) hi hx hf) p rfl, ?_, ?_, ?_⟩
      · rw [List.length_cons, List.length_cons, l0]
      · show (_ :: assignEach es X.env).length = _
        rw [List.length_cons, l1, List.length_cons]
      · show List.findIdx? _ ((false, _) :: assignEach es X.env) = none
        rw [List.findIdx?_cons]
        simp [l2]
    · cases h
theorem tg_ok (G : Good X S c) (tg : Expr) : PG X tg (gT X.K (cG S tg)) := by
  unfold cG
  split
  · rename_i x p
    split
    · rename_i i hi
      obtain ⟨y, pos, e, hi, hx, hf⟩ := nmSlot_ok G hi
      cases e
      exact pg_name (by rw [G.N]; exact G.nd) hi hx hf
    · exact ⟨fun _ _ _ _ _ _ _ _ _ h => h.elim⟩
  · rename_i es k p
    split
    · rename_i is his
      obtain ⟨p, _, l1, l2⟩ := nmSlots_ok G his
      exact pg_tup G.calm p l1 l2
    · exact ⟨fun _ _ _ _ _ _ _ _ _ h => h.elim⟩
  · exact ⟨fun _ _ _ _ _ _ _ _ _ h => h.elim⟩

/-! ### over the parts -/
structure CvOk (r : Cv) : Prop where
  E : ∀ {X : Cx} {S : Sta} {c : Cxt}, Good X S c → ∀ (e : Expr) (ψ : List Addr), PE X e (tE (kk X ψ) c (r.E S e))
  T : ∀ {X : Cx} {S : Sta} {c : Cxt}, Good X S c → ∀ (e : Expr) (ψ : List Addr), PT X e (tT (kk X ψ) c (r.T S e))
  I : ∀ {X : Cx} {S : Sta} {c : Cxt}, Good X S c → ∀ (g e : Expr) (ψ : List Addr), PI X g e (tI (kk X ψ) c (r.I S g e))
  B : ∀ {X : Cx} {S : Sta} {c : Cxt}, Good X S c → PassesOwn (model X.prog X.w) X.A X.env X.xe → ∀ (b : List Stmt) (ψ : List Addr), PSs X b (tS (kk X ψ) c (r.B S b))
variable {r : Cv}
theorem args_ok (R : CvOk r) (G : Good X S c) (ψ : List Addr) : ∀ {es : List Expr}, es.all notStar = true → PA X es (tA (kk X ψ) c (cA r S es))
  | [], _ => PA.imp pa_nil fun _ _ _ h => t_nil h
  | e :: es, h => by
    rw [List.all_cons, Bool.and_eq_true] at h
    exact PA.imp (pa_cons (R.E G e ψ) (args_ok R G ψ h.2) (star_cons h.1)) fun _ _ _ h => t_cons h
theorem and_ok (R : CvOk r) (G : Good X S c) {pos : Pos} (ψ : List Addr) : ∀ {es : List Expr}, PE X (.BoolOp .And es pos) (tE (kk X ψ) c (cAnd r S es))
  | [] => pe_bad
  | [a] => pe_one (R.E G a ψ)
  | a :: b :: es => PE.imp (pe_andT (R.E G a ψ) (and_ok R G ψ)) fun _ _ _ h => t_andE h
theorem or_ok (R : CvOk r) (G : Good X S c) {pos : Pos} (ψ : List Addr) : ∀ {es : List Expr}, PE X (.BoolOp .Or es pos) (tE (kk X ψ) c (cOr r S es))
  | [] => pe_bad
  | [a] => pe_one (R.E G a ψ)
  | a :: b :: es => PE.imp (pe_orT (R.E G a ψ) (or_ok R G ψ)) fun _ _ _ h => t_orE h
theorem andT_ok (R : CvOk r) (G : Good X S c) {pos : Pos} (ψ : List Addr) : ∀ {es : List Expr}, PW X (.BoolOp .And es pos) (tT (kk X ψ) c (cAndT r S es))
  | [] => pw_bad
  | [a] => pw_and1 (R.T G a ψ)
  | a :: b :: es => PW.imp (pw_and (R.T G a ψ) (andT_ok R G ψ)) fun _ _ _ h => t_and h
theorem orT_ok (R : CvOk r) (G : Good X S c) {pos : Pos} (ψ : List Addr) : ∀ {es : List Expr}, PW X (.BoolOp .Or es pos) (tT (kk X ψ) c (cOrT r S es))
  | [] => pw_bad
  | [a] => pw_or1 (R.T G a ψ)
  | a :: b :: es => PW.imp (pw_or (R.T G a ψ) (orT_ok R G ψ)) fun _ _ _ h => t_or h

/-! ### a written dict of the module -/
theorem kd_of {e : Expr} {kvs : List (Str × D)} (G : Good X S c) (h : kdOf S e = some kvs) : ∃ x pos d es n, e = .Name x pos ∧ PE X e (tC (.ref d)) ∧ KDict X.K X.w d es n ∧ ∀ z, ∃ r, PySem.W.nsIn X.K d z = some r ∧
    match kvs.lookup z with
    | some dv => ∃ u0 v0, r = some u0 ∧ RelV v0 u0 ∧ ∀ ψ φ H, Rep (kk X ψ) φ H dv v0
    | none => r = none := by
  unfold kdOf at h
  split at h
  · rename_i x pos
    split at h
    · rename_i hb
      rw [Bool.and_eq_true] at hb
      obtain ⟨d, es, n, hm, D, q⟩ := G.kd x kvs h
      exact ⟨x, pos, d, es, n, rfl, pe_glob (G.gl hb.2) hm rfl (okN_of hb.1).1, D, q⟩
    · cases h
  · cases h
theorem kdIn_ok {d : Addr} {es : Array DictEntry} {n : Nat} {kvs : List (Str × D)} (D : KDict X.K X.w d es n) (q : ∀ z, ∃ r, PySem.W.nsIn X.K d z = some r ∧
    match kvs.lookup z with
    | some dv => ∃ u0 v0, r = some u0 ∧ RelV v0 u0 ∧ ∀ ψ φ H, Rep (kk X ψ) φ H dv v0
    | none => r = none) (ψ : List Addr) : OpR X (compareOp .In) (fun x y H Q => y = .ref d ∧ tUnD (kk X ψ) (kdIn kvs) x H Q) := by
  intro pins s σ H x y v u Q I rx ry ⟨ey, φ, m, dx, M, r, p⟩
  subst ey
  unfold kdIn at p
  split at p
  · rename_i z
    obtain rfl : x = .str z := r
    obtain ⟨r0, e, q2⟩ := q z
    refine op_in_kd D pins s σ H _ _ v u Q I rx ry ⟨z, r0, rfl, rfl, e, ?_⟩
    have hs : r0.isSome = (kvs.lookup z).isSome := by
      split at q2
      · rename_i dv hd
        obtain ⟨u0, v0, rfl, _⟩ := q2
        rw [hd]
        rfl
      · rename_i hd
        rw [q2, hd]
        rfl
    rw [hs]
    exact p.same M rfl
  · exact p.elim
theorem kdNotIn_ok {d : Addr} {es : Array DictEntry} {n : Nat} {kvs : List (Str × D)} (D : KDict X.K X.w d es n) (q : ∀ z, ∃ r, PySem.W.nsIn X.K d z = some r ∧
    match kvs.lookup z with
    | some dv => ∃ u0 v0, r = some u0 ∧ RelV v0 u0 ∧ ∀ ψ φ H, Rep (kk X ψ) φ H dv v0
    | none => r = none) (ψ : List Addr) : OpR X (compareOp .NotIn) (fun x y H Q => y = .ref d ∧ tUnD (kk X ψ) (kdNotIn kvs) x H Q) := by
  intro pins s σ H x y v u Q I rx ry ⟨ey, φ, m, dx, M, r, p⟩
  subst ey
  unfold kdNotIn at p
  split at p
  · rename_i z
    obtain rfl : x = .str z := r
    obtain ⟨r0, e, q2⟩ := q z
    refine op_notIn_kd D pins s σ H _ _ v u Q I rx ry ⟨z, r0, rfl, rfl, e, ?_⟩
    have hs : r0.isSome = (kvs.lookup z).isSome := by
      split at q2
      · rename_i dv hd
        obtain ⟨u0, v0, rfl, _⟩ := q2
        rw [hd]
        rfl
      · rename_i hd
        rw [q2, hd]
        rfl
    rw [hs]
    exact p.same M rfl
  · exact p.elim
theorem kdGet_ok {d : Addr} {es : Array DictEntry} {n : Nat} {kvs : List (Str × D)} (D : KDict X.K X.w d es n) (q : ∀ z, ∃ r, PySem.W.nsIn X.K d z = some r ∧
    match kvs.lookup z with
    | some dv => ∃ u0 v0, r = some u0 ∧ RelV v0 u0 ∧ ∀ ψ φ H, Rep (kk X ψ) φ H dv v0
    | none => r = none) (ψ : List Addr) : IxR X (fun x y H Q => x = .ref d ∧ tUnD (kk X ψ) (kdGet kvs) y H Q) := by
  intro value slice pins s σ H x y v u Q I rx ry ⟨ex, φ, m, dx, M, r, p⟩ hs
  subst ex
  unfold kdGet at p
  split at p
  · rename_i z
    obtain rfl : y = .str z := r
    obtain ⟨r0, e, q2⟩ := q z
    split at p
    · rename_i dv hd
      rw [hd] at q2
      obtain ⟨u0, v0, rfl, ru, rv⟩ := q2
      exact ix_kdict value slice pins s σ H _ _ v u Q I rx ry ⟨d, z, v0, rfl, rfl, ⟨es, n, u0, D.at_, D.lit, e, ru⟩, p.same M (rv _ _ _)⟩ hs
    · exact p.elim
  · exact p.elim
theorem cmp_run (R : CvOk r) (G : Good X S c) {a b : Expr} {op : CmpOp} {pos : Pos} (ψ : List Addr) : PE X (.Compare a [op] [b] pos) (tE (kk X ψ) c (cCmp r S a op b)) := by
  unfold cCmp
  split
  · rename_i kvs hk
    obtain ⟨x, p, d, es, n, rfl, pb, D, q⟩ := kd_of G hk
    exact PE.imp (pe_cmpR (kdIn_ok D q ψ) (R.E G a ψ) pb rfl) fun σ H Q h => by
      obtain ⟨φ, ρ, m, fr, M, p⟩ := t_un h
      exact ⟨φ, ρ, m, fr, M, p.mono fun x H1 q => ⟨rfl, q⟩⟩
  · rename_i kvs hk
    obtain ⟨x, p, d, es, n, rfl, pb, D, q⟩ := kd_of G hk
    exact PE.imp (pe_cmpR (kdNotIn_ok D q ψ) (R.E G a ψ) pb rfl) fun σ H Q h => by
      obtain ⟨φ, ρ, m, fr, M, p⟩ := t_un h
      exact ⟨φ, ρ, m, fr, M, p.mono fun x H1 q => ⟨rfl, q⟩⟩
  · split
    · exact pe_bad
    · rename_i hb
      split
      · rename_i f hf
        exact PE.imp (pe_cmpR (cmp_ok G hf ψ) (R.E G a ψ) (R.E G b ψ) (by simpa using hb)) fun _ _ _ h => t_op h
      · exact pe_bad
theorem tru_un {κ : KK} {f : D → Mem → RD} {A : SE} {σ : L2.St} {H : Hp} {Q : Bool → Hp → Prop} (hf : ∀ d m x, f d m = .ok x → ∃ b, x.1 = .bl b) (h : tT κ c (stTru (sUn f A)) σ H Q) : tE κ c A σ H fun x H1 => tUnD κ f x H1 fun y H2 => ∃ k, y = .bl k ∧ Q k H2 := by
  obtain ⟨φ, ρ, m, fr, M, p⟩ := h
  unfold stTru sUn at p
  rw [R.bind_assoc] at p
  refine ⟨φ, ρ, m, fr, M, (Po.bind (Rl := Rep κ) p).mono fun x H1 ⟨φ1, m1, d1, e1, M1, r1, p1⟩ => ?_⟩
  refine ⟨φ1, m1, d1, M1, r1, ?_⟩
  cases e : f d1 m1 with
  | ok z =>
    obtain ⟨b, hb⟩ := hf _ _ _ e
    obtain ⟨z1, z2⟩ := z
    subst hb
    dsimp only at p1
    rw [e] at p1
    intro v φ2 H2 e2 M2 r2
    exact ⟨b, r2, p1 b φ2 H2 e2 M2 rfl⟩
  | exc _ _ _ =>
    dsimp only at p1
    rw [e] at p1
    exact p1.elim
  | bad =>
    dsimp only at p1
    rw [e] at p1
    exact p1.elim
theorem cmpT_run (R : CvOk r) (G : Good X S c) {a b : Expr} {op : CmpOp} {pos : Pos} (ψ : List Addr) : PT X (.Compare a [op] [b] pos) (tT (kk X ψ) c (cCmpT r S a op b)) := by
  unfold cCmpT
  split
  · rename_i kvs hk
    obtain ⟨x, p, d, es, n, rfl, pb, D, q⟩ := kd_of G hk
    exact PT.imp (pt_cmpR (kdIn_ok D q ψ) (R.E G a ψ) pb rfl) fun σ H Q h => by
      obtain ⟨φ, ρ, m, fr, M, p⟩ := tru_un (fun d m x e => by unfold kdIn at e; split at e <;> cases e; exact ⟨_, rfl⟩) h
      exact ⟨φ, ρ, m, fr, M, p.mono fun x H1 q => ⟨rfl, q⟩⟩
  · rename_i kvs hk
    obtain ⟨x, p, d, es, n, rfl, pb, D, q⟩ := kd_of G hk
    exact PT.imp (pt_cmpR (kdNotIn_ok D q ψ) (R.E G a ψ) pb rfl) fun σ H Q h => by
      obtain ⟨φ, ρ, m, fr, M, p⟩ := tru_un (fun d m x e => by unfold kdNotIn at e; split at e <;> cases e; exact ⟨_, rfl⟩) h
      exact ⟨φ, ρ, m, fr, M, p.mono fun x H1 q => ⟨rfl, q⟩⟩
  · split
    · exact pt_bad
    · rename_i hb
      split
      · rename_i f hf
        exact PT.imp (pt_cmpR (cmp_ok G hf ψ) (R.E G a ψ) (R.E G b ψ) (by simpa using hb)) fun _ _ _ h => t_cmp h
      · exact pt_bad

/-! ### subscripts, slices, displays -/
theorem o_ok (R : CvOk r) (G : Good X S c) (ψ : List Addr) : ∀ {o : Option Expr}, PO X o (tO (kk X ψ) c (cO r S o))
  | none => PO.imp po_none fun _ _ _ h => t_no h
  | some e => PO.imp (po_some (R.E G e ψ)) fun _ _ _ h => t_some h
theorem sub_ok (R : CvOk r) (G : Good X S c) {a b : Expr} {pos : Pos} (ψ : List Addr) : PE X (.Subscript a b pos) (tE (kk X ψ) c (cSub r S a b)) := by
  unfold cSub
  split
  · exact PE.imp (pe_slice sl_D (R.E G a ψ) (o_ok R G ψ) (o_ok R G ψ)) fun _ _ _ h => t_sl h
  · exact PE.imp (pe_revL (R.E G a ψ)) fun _ _ _ h => t_rev h
  · split
    · rename_i hb
      split
      · rename_i kvs hk
        obtain ⟨x, p, d, es, n, rfl, pa, D, q⟩ := kd_of G hk
        exact PE.imp (pe_ix (kdGet_ok D q ψ) pa (R.E G b ψ) (plainIx hb)) fun σ H Q h => by
          obtain ⟨φ, ρ, m, fr, M, p⟩ := t_un h
          exact ⟨φ, ρ, m, fr, M, p.mono fun x H1 q => ⟨rfl, q⟩⟩
      · have u := G.un
        exact PE.imp (pe_ix (ir_ix (by omega)) (R.E G a ψ) (R.E G b ψ) (plainIx hb)) fun _ _ _ h => t_op h
    · exact pe_bad
theorem pairs_run (R : CvOk r) (G : Good X S c) {pos : Pos} : ∀ {ks : List (Option Expr)} {vs : List Expr} {ps : List (SE × SE)}, cPairs r S ks vs = some ps → PPs X pos ks vs (trsD X.K c ps) ∧ ks.all (·.isSome) = true ∧ ks.length = vs.length ∧ ks.length = ps.length
  | [], [], ps, h => by
    cases h
    exact ⟨pps_nil, rfl, rfl, rfl⟩
  | some k :: ks, v :: vs, ps, h => by
    unfold cPairs at h
    split at h
    · rename_i ps' hp
      cases h
      obtain ⟨p, h1, h2, h3⟩ := pairs_run R G (pos := pos) hp
      refine ⟨pps_cons (PE.any fun ψ => R.E G k ψ) (PE.any fun ψ => R.E G v ψ) p, ?_, ?_, ?_⟩
      · rw [List.all_cons, h1]
        rfl
      · rw [List.length_cons, List.length_cons, h2]
      · rw [List.length_cons, List.length_cons, h3]
    · cases h
  | none :: _, _, _, h => by cases ‹List Expr› <;> cases h
  | [], _ :: _, _, h => by cases h
  | some _ :: _, [], _, h => by cases h
theorem t_empD {κ : KK} {al : Bool} {σ : L2.St} {H : Hp} {Q : VK} (h : tE κ c (sEmpD al) σ H Q) : tDNewK σ H Q := by
  obtain ⟨φ, ρ, m, fr, M, p⟩ := h
  exact (mkD_new p M KvR.nil).2
theorem dict_ok (R : CvOk r) (G : Good X S c) {ks : List (Option Expr)} {vs : List Expr} {pos : Pos} (ψ : List Addr) : PE X (.Dict ks vs pos) (tE (kk X ψ) c (cDict r S ks vs pos)) := by
  unfold cDict
  split
  · exact PE.imp pe_dnewK fun _ _ _ h => t_empD h
  · rename_i hne
    split
    · rename_i ps hp
      obtain ⟨p, h1, h2, h3⟩ := pairs_run R G (pos := pos) hp
      by_cases h15 : ks.length ≤ 15
      · refine PE.imp (pe_disp p h1 h2 (fun z => ?_) h15) fun _ _ _ h => t_disp h
        rw [z] at h2
        exact hne z (List.eq_nil_of_length_eq_zero h2.symm)
      · exact ⟨fun _ _ _ _ _ _ h => by
          obtain ⟨_, _, _, _, _, p⟩ := h
          unfold sDisp at p
          rw [if_neg (by rw [← h3]; exact h15)] at p
          exact p.elim⟩
    · exact pe_bad
end
end Fp

set_option maxHeartbeats 4000000
/-! Fp12: the meaning of a text is what the machine does: calls, comprehensions, statements -/
namespace Fp
open PySem PySem.Spec PyProof.Rows L2 RZ
section
variable {X : Cx} {S : Sta} {c : Cxt} {r : Cv}

/-! ### calls -/
theorem t_call {K : PySem.W.Frag} {ψ : List Addr} {x : Str} {A : SA} {σ : L2.St} {H : Hp} {Q : VK} (h : tE ⟨K, ψ⟩ c (sCall x A) σ H Q) : tCall (spD K c x) [] E0 (tA ⟨K, ψ⟩ c A) σ H Q := by
  obtain ⟨φ, ρ, m, fr, M, p⟩ := h
  refine ⟨φ, ρ, m, fr, M, (Po.bind (Rl := Reps ⟨K, ψ⟩) p).mono fun vs H1 ⟨φ1, m1, ds, e1, M1, r1, p1⟩ => ?_⟩
  rw [List.append_nil]
  exact ⟨ψ, φ1, m1, ds, M1, r1, p1⟩
theorem t_call0 {K : PySem.W.Frag} {ψ : List Addr} {x : Str} {σ : L2.St} {H : Hp} {Q : VK} (h : tE ⟨K, ψ⟩ c (sCall x sNil) σ H Q) : tCall (spD K c x) [] E0 tNil σ H Q := by
  obtain ⟨φ, ρ, m, fr, M, p⟩ := h
  exact ⟨ψ, φ, m, [], M, rfl, p⟩
theorem setArg_ok {args : List Expr} {a : Expr} (h : setArg S args = some a) : ∃ p q, args = [.Call (.Name "set" p) [a] [] q] ∧ biAt S "set" = true ∧ notStar a = true := by
  unfold setArg at h
  split at h
  · rename_i y p b q
    split at h
    · rename_i hc
      cases h
      obtain ⟨rfl, h2, h3⟩ := hc
      exact ⟨p, q, rfl, h2, h3⟩
    · cases h
  · cases h
theorem biAt_ok (G : Good X S c) {x : Str} (h : biAt S x = true) : okN x = true ∧ Gl X x ∧ X.mg x = none := by
  unfold biAt at h
  rw [Bool.and_eq_true, Bool.and_eq_true] at h
  exact ⟨h.1.1, G.gl h.1.2, G.bi x h.2⟩
theorem cBi_ok (R : CvOk r) (G : Good X S c) {x : Str} {p : Pos} {args : List Expr} {pos : Pos} (hst : args.all notStar = true) (ψ : List Addr) : PE X (.Call (.Name x p) args [] pos) (tE (kk X ψ) c (cBi r S x args pos)) := by
  unfold cBi
  split
  · exact pe_bad
  · rename_i a es
    have hst2 : notStar a = true ∧ es.all notStar = true := by
      rw [List.all_cons, Bool.and_eq_true] at hst
      exact hst
    split
    · rename_i hb
      obtain ⟨h1, hg, hm⟩ := biAt_ok G hb
      have hk := okN_of h1
      split
      · rename_i f hf
        rcases bi_ok G.calm hf ψ with ⟨id, hv, hc⟩ | ⟨T, hv, hc⟩
        · exact PE.imp (pe_callB hc hg hm hv (args_ok R G ψ hst) hk.2.2 hk.1 (star_cons hst2.1) (back_any hst2.2)) fun _ _ _ h => t_bi h
        · exact PE.imp (pe_callTy hc hg hm hv (args_ok R G ψ hst) hk.2.2 hk.1 (star_cons hst2.1) (back_any hst2.2)) fun _ _ _ h => t_bi h
      · exact pe_bad
    · exact pe_bad
theorem dzArgs_ok {args : List Expr} {a b : Expr} {o : Option Expr} (h : dzArgs S args = some (a, b, o)) : biAt S "zip" = true ∧ biAt S "range" = true ∧ notStar a = true ∧ notStar b = true ∧
    match (generalizing := false) o with
    | none => ∃ p q p2 q2, args = [.Call (.Name "zip" p) [a, .Call (.Name "range" q) [b] [] q2] [] p2]
    | some c => notStar c = true ∧ ∃ p q p2 q2, args = [.Call (.Name "zip" p) [a, .Call (.Name "range" q) [b, c] [] q2] [] p2] := by
  unfold dzArgs at h
  split at h
  · rename_i z p a' y q rs q2 p2
    by_cases hc : z = ("zip" : Str) ∧ y = ("range" : Str) ∧ biAt S z = true ∧ biAt S y = true ∧ notStar a' = true ∧ rs.all notStar = true
    · have g : dzR a' rs = some (a, b, o) := by
        rw [if_pos hc] at h
        exact h
      clear h
      obtain ⟨rfl, rfl, h1, h2, h3, h4⟩ := hc
      unfold dzR at g
      split at g
      · cases g
        exact ⟨h1, h2, h3, by simpa using h4, _, _, _, _, rfl⟩
      · rename_i b' c'
        cases g
        have h5 : notStar b = true ∧ notStar c' = true := by simpa using h4
        exact ⟨h1, h2, h3, h5.1, h5.2, _, _, _, _, rfl⟩
      · cases g
    · rw [if_neg hc] at h
      cases h
  · cases h
theorem cBi3_ok (R : CvOk r) (G : Good X S c) {x : Str} {p : Pos} {args : List Expr} {pos : Pos} (hst : args.all notStar = true) (ψ : List Addr) : PE X (.Call (.Name x p) args [] pos) (tE (kk X ψ) c (cBi3 r S x args pos)) := by
  unfold cBi3
  split
  · rename_i a b hd
    obtain ⟨h1, h2, h3, h4, p1, q1, p2, q2, rfl⟩ := dzArgs_ok hd
    obtain ⟨_, g2, m2⟩ := biAt_ok G h1
    obtain ⟨_, g3, m3⟩ := biAt_ok G h2
    split
    · rename_i hx
      obtain ⟨rfl, hx⟩ := hx
      obtain ⟨_, g1, m1⟩ := biAt_ok G hx
      exact pe_dz1 G.calm g1 m1 g2 m2 g3 m3 (R.E G a ψ) (R.E G b ψ) h3 h4
    · exact pe_bad
  · rename_i a b e hd
    obtain ⟨h1, h2, h3, h4, h5, p1, q1, p2, q2, rfl⟩ := dzArgs_ok hd
    obtain ⟨_, g2, m2⟩ := biAt_ok G h1
    obtain ⟨_, g3, m3⟩ := biAt_ok G h2
    split
    · rename_i hx
      obtain ⟨rfl, hx⟩ := hx
      obtain ⟨_, g1, m1⟩ := biAt_ok G hx
      exact pe_dz2 G.calm g1 m1 g2 m2 g3 m3 (R.E G a ψ) (R.E G b ψ) (R.E G e ψ) h3 h4 h5
    · exact pe_bad
  · exact cBi_ok R G hst ψ
theorem cBi2_ok (R : CvOk r) (G : Good X S c) {x : Str} {p : Pos} {args : List Expr} {pos : Pos} (hst : args.all notStar = true) (ψ : List Addr) : PE X (.Call (.Name x p) args [] pos) (tE (kk X ψ) c (cBi2 r S x args pos)) := by
  unfold cBi2
  split
  · rename_i a ha
    obtain ⟨p2, q, rfl, hb, hs⟩ := setArg_ok ha
    obtain ⟨_, hg2, hm2⟩ := biAt_ok G hb
    split
    · rename_i hx
      obtain ⟨rfl, hx⟩ := hx
      obtain ⟨_, hg, hm⟩ := biAt_ok G hx
      exact pe_sortSet G.calm hg hm hg2 hm2 (R.E G a ψ) hs
    · split
      · rename_i hx
        obtain ⟨rfl, hx⟩ := hx
        obtain ⟨_, hg, hm⟩ := biAt_ok G hx
        exact pe_lenSet2 G.calm hg hm hg2 hm2 (R.E G a ψ) hs
      · exact pe_bad
  · exact cBi3_ok R G hst ψ
theorem call_ok (R : CvOk r) (G : Good X S c) {f : Expr} {args : List Expr} {pos : Pos} (ψ : List Addr) : PE X (.Call f args [] pos) (tE (kk X ψ) c (cCall r S f args pos)) := by
  unfold cCall
  split
  · rename_i hst
    split
    · rename_i x p
      split
      · rename_i np hf
        split
        · rename_i hl
          unfold fnAt at hf
          split at hf
          · rename_i hb
            rw [Bool.and_eq_true] at hb
            have hk := okN_of hb.1
            obtain ⟨k, fa, fd, ps, F, hr, hm, hkp, hbd⟩ := G.call x np hf
            cases args with
            | nil => exact PE.imp (pe_call0 F hr (G.gl hb.2) hm hkp hbd .nil pass0 hk.1) fun _ _ _ h => t_call0 h
            | cons a es =>
              have hst2 : notStar a = true ∧ es.all notStar = true := by
                rw [List.all_cons, Bool.and_eq_true] at hst
                exact hst
              exact PE.imp (pe_call F hr (G.gl hb.2) hm hkp hbd .nil pass0 (args_ok R G ψ hst) hk.1 (star_cons hst2.1) (back_any hst2.2)) fun _ _ _ h => t_call h
          · cases hf
        · exact pe_bad
      · exact cBi2_ok R G hst ψ
    · rename_i o m ap
      split
      · rename_i hb
        rw [Bool.and_eq_true, Bool.and_eq_true] at hb
        split
        · rename_i gf hf
          obtain ⟨T, id, W⟩ := mt_ok G hf ψ
          cases args with
          | nil => exact PE.imp (pe_bm0 W.pa W.slot W.ty W.run (R.E G o ψ) (base_plain hb.1.1) hb.1.2) fun _ _ _ h => t_meth0 W.tyv h
          | cons a es =>
            have hst2 : notStar a = true ∧ es.all notStar = true := by
              rw [List.all_cons, Bool.and_eq_true] at hst
              exact hst
            refine PE.imp (pe_bm W.pa W.slot W.ty W.run (R.E G o ψ) (args_ok R G ψ hst) (base_plain hb.1.1) ?_ hb.1.2 (star_cons hst2.1) (back_any hst2.2)) fun _ _ _ h => t_meth W.tyv h
            rw [back_all hst]
            have h30 := of_decide_eq_true hb.2
            show (true && _ && decide ((a :: es).length + 0 + 0 < 30)) = true
            rw [decide_eq_true (by omega)]
            rfl
        · exact pe_bad
      · exact pe_bad
    · exact pe_bad
  · exact pe_bad

/-! ### comprehensions -/
theorem PTs.imp {X : Cx} {e : List Expr} {t t' : TT} (h : PTs X e t) (i : ∀ σ H Q, t' σ H Q → t σ H Q) : PTs X e t' := ⟨fun pins s σ H Q I q => h.run pins s σ H Q I (i _ _ _ q)⟩
theorem ifs_ok (R : CvOk r) (G : Good X S c) (ψ : List Addr) : ∀ {es : List Expr}, PTs X es (tT (kk X ψ) c (cIfs r S es))
  | [] => PTs.imp pts_nil fun σ H Q h => by
    obtain ⟨φ, ρ, m, fr, M, p⟩ := h
    exact p true φ H Ext.refl M rfl
  | [t] => pts_one (R.T G t ψ)
  | _ :: _ :: _ => pts_bad
theorem PTs.any {X : Cx} {es : List Expr} {F : ST} (h : ∀ ψ, PTs X es (tT (kk X ψ) c F)) : PTs X es (exT X.K c F) := ⟨fun pins s σ H Q I ⟨ψ, q⟩ => (h ψ).run pins s σ H Q I q⟩
theorem own_sub {t : Tgt} {own : List Nat} (h : ownB t own = true) : ∀ i ∈ t.slots, i ∈ own := fun i hi => by
  unfold ownB at h
  rw [List.all_eq_true] at h
  simpa using h i hi
theorem blk_of (G : Good X S c) {scope : Scope} (h : blkC S.N S.sc scope (ownOf S.N scope) = true) : BlkOk X.N X.env.scope scope (ownOf S.N scope) := by
  rw [G.N, G.sc]
  exact blkOk_by h
theorem comp_ok (R : CvOk r) (G : Good X S c) {elt : Expr} {gens : List Comprehension} {scope : Scope} {pos : Pos} (ψ : List Addr) : PE X (.ListComp elt gens scope pos) (tE (kk X ψ) c (cComp r S elt gens scope pos)) := by
  unfold cComp
  split
  · rename_i tg iter ifs
    split
    · rename_i hb
      rw [Bool.and_eq_true, Bool.and_eq_true] at hb
      have ok := blk_of G hb.1.1
      have hset : isSet iter = false := by simpa using hb.2
      refine PE.imp (pe_lc G.calm (by rw [G.N]; exact G.nd) (R.I G tg iter ψ) ok (fun s H C cl fp => tg_ok (G.blk s H scope ok.kind C cl fp) tg) (fun s H C cl fp => PTs.any fun ψ => ifs_ok R (G.blk s H scope ok.kind C cl fp) ψ) (fun s H C cl fp => PE.any fun ψ => R.E (G.blk s H scope ok.kind C cl fp) elt ψ) (folded_no hset)) fun _ _ _ h => t_comp (own_sub hb.1.2) h
    · exact pe_bad
  · rename_i tg iter tg1 iter1 ifs1
    split
    · rename_i hb
      rw [Bool.and_eq_true, Bool.and_eq_true, Bool.and_eq_true, Bool.and_eq_true] at hb
      have ok := blk_of G hb.1.1.1.1
      have hset : isSet iter = false := by simpa using hb.1.1.2
      have hset1 : isSet iter1 = false := by simpa using hb.1.2
      refine PE.imp (pe_lc2 G.calm (by rw [G.N]; exact G.nd) (R.I G tg iter ψ) ok (own_sub hb.2) (fun s H C cl fp => tg_ok (G.blk s H scope ok.kind C cl fp) tg) (fun s H C cl fp => pts_nil)
        (fun s H C cl fp => PI.any fun ψ => R.I (G.blk s H scope ok.kind C cl fp) tg1 iter1 ψ) (fun s H C cl fp => tg_ok (G.blk s H scope ok.kind C cl fp) tg1) (fun s H C cl fp => PTs.any fun ψ => ifs_ok R (G.blk s H scope ok.kind C cl fp) ψ)
        (fun s H C cl fp => PE.any fun ψ => R.E (G.blk s H scope ok.kind C cl fp) elt ψ) (folded_no hset) (fun env => folded_no hset1)) fun _ _ _ h => t_comp2 (own_sub hb.1.1.1.2) (fun i hi => hi) h
    · exact pe_bad
  · exact pe_bad

/-! ### expressions, tests, what is walked -/
theorem stE_ok (R : CvOk r) (G : Good X S c) (e : Expr) (ψ : List Addr) : PE X e (tE (kk X ψ) c (stE r S e)) := by
  unfold stE
  split
  · exact name_ok G ψ
  · exact const_ok ψ
  · rename_i a op b pos
    split
    · rename_i f hf
      exact PE.imp (pe_op (bop_ok hf ψ) (R.E G a ψ) (R.E G b ψ)) fun _ _ _ h => t_op h
    · exact pe_bad
  · rename_i op a pos
    cases op with
    | Not => exact PE.imp (pe_notT (R.E G a ψ)) fun _ _ _ h => t_not h
    | USub => exact PE.imp (pe_un (neg_ok ψ) (R.E G a ψ)) fun _ _ _ h => t_un h
    | _ => exact pe_bad
  · rename_i op vs pos
    cases op with
    | And => exact and_ok R G ψ
    | Or => exact or_ok R G ψ
  · split
    · exact cmp_run R G ψ
    · exact pe_bad
  · rename_i t a b pos
    exact PE.imp (pe_ifExp (R.T G t ψ) (R.E G a ψ) (R.E G b ψ)) fun _ _ _ h => t_ifE h
  · split
    · rename_i h
      exact PE.imp (pe_tup (args_ok R G ψ h)) fun _ _ _ h => t_tup h
    · exact pe_bad
  · split
    · rename_i h
      exact PE.imp (pe_lst (args_ok R G ψ h)) fun _ _ _ h => t_lst h
    · exact pe_bad
  · exact dict_ok R G ψ
  · exact sub_ok R G ψ
  · exact call_ok R G ψ
  · exact comp_ok R G ψ
  · exact pe_bad
theorem stT_ok (R : CvOk r) (G : Good X S c) (e : Expr) (ψ : List Addr) : PT X e (tT (kk X ψ) c (stT r S e)) := by
  have dflt : plainTest e = true → PT X e (tT (kk X ψ) c (stTru (r.E S e))) := fun h => PT.imp (pt_truth (R.E G e ψ) (test_plain h)) fun _ _ _ h => t_tru h
  cases e with
  | UnaryOp op a pos =>
    cases op with
    | Not => exact PT.imp (pt_not (R.T G a ψ)) fun _ _ _ h => t_notT h
    | _ => exact pt_bad
  | BoolOp op vs pos =>
    cases op with
    | And => exact (andT_ok R G ψ).pt
    | Or => exact (orT_ok R G ψ).pt
  | Compare a ops bs pos =>
    clear dflt
    unfold stT
    dsimp only
    split
    · exact cmpT_run R G ψ
    · exact pt_bad
  | IfExp t a b pos => exact pt_bad
  | _ => exact dflt rfl
theorem seq_ok (R : CvOk r) (G : Good X S c) (g e : Expr) (ψ : List Addr) : PI X g e (tI (kk X ψ) c (siSeq (r.E S e))) := PI.imp (pi_seqD (R.E G e ψ)) fun _ _ _ h => t_seq h
theorem stI_ok (R : CvOk r) (G : Good X S c) (g e : Expr) (ψ : List Addr) : PI X g e (tI (kk X ψ) c (stI r S g e)) := by
  unfold stI
  split
  · rename_i x p a pos
    split
    · rename_i hs
      split
      · rename_i hx
        split
        · rename_i hb
          subst hx
          unfold biAt at hb
          rw [Bool.and_eq_true, Bool.and_eq_true] at hb
          exact PI.imp (pi_range1 (G.gl hb.1.2) (G.bi _ hb.2) (args_ok R G ψ (by simp [hs])) (star_cons hs)) fun _ _ _ h => t_range1 h
        · exact pi_bad
      · exact seq_ok R G g _ ψ
    · exact pi_bad
  · rename_i x p a b pos
    split
    · rename_i hs
      rw [Bool.and_eq_true] at hs
      have h2 : starEach [b] X.env = [(false, eval b X.env)] := star_cons hs.2
      have h1 : starEach [a, b] X.env = [(false, eval a X.env), (false, eval b X.env)] := by rw [star_cons hs.1, h2]
      split
      · rename_i hx
        split
        · rename_i hb
          subst hx
          unfold biAt at hb
          rw [Bool.and_eq_true, Bool.and_eq_true] at hb
          exact PI.imp (pi_range2 (G.gl hb.1.2) (G.bi _ hb.2) (args_ok R G ψ (by simp [hs])) h1 h2) fun _ _ _ h => t_range2 h
        · exact pi_bad
      · split
        · rename_i hx
          split
          · rename_i hb
            subst hx
            unfold biAt at hb
            rw [Bool.and_eq_true, Bool.and_eq_true] at hb
            split
            · exact PI.imp (pi_zipA (G.gl hb.1.2) (G.bi _ hb.2) (args_ok R G ψ (by simp [hs])) (star_cons hs.1) (back_any (by simp [hs]))) fun _ _ _ h => t_zip h
            · exact pi_bad
          · exact pi_bad
        · exact seq_ok R G g _ ψ
    · exact pi_bad
  · exact seq_ok R G g _ ψ

/-! ### statements -/
theorem sw_par (G : Good X S c) {ts vs : List Expr} {kt kv : Nat} {pt pv : Pos} {r : Option (List Str)} (h : swP S ts vs = some r) : swappedStores [.Tuple ts kt pt] (.Tuple vs kv pv) X.env = pure r := by
  have hbk : X.env.blockKind = .function := by
    unfold Env.blockKind
    rw [G.sc, G.fk]
    rfl
  have hko : ∀ x, X.env.kindOf x = S.sc.names.lookup x := fun x => by
    show X.env.scope.names.lookup x = _
    rw [G.sc]
  unfold swP at h
  unfold swappedStores
  simp only [hbk, hko]
  by_cases c1 : (!(ts.length == 2 || ts.length == 3) || vs.length != ts.length) = true
  · rw [if_pos c1] at h
    cases h
    have c1' : (!(ts.length == 2 || ts.length == 3) || vs.length != ts.length || (ScopeKind.function != ScopeKind.function)) = true := by rw [c1]; rfl
    rw [if_pos c1']
  · rw [if_neg c1] at h
    have c1' : ¬ (!(ts.length == 2 || ts.length == 3) || vs.length != ts.length || (ScopeKind.function != ScopeKind.function)) = true := by
      intro z
      rw [Bool.or_eq_true] at z
      rcases z with z | z
      · exact c1 z
      · exact absurd z (by decide)
    rw [if_neg c1']
    split at h
    · rename_i c2
      cases h
      exact if_pos c2
    · rename_i c2
      refine (if_neg c2).trans ?_
      dsimp only at h ⊢
      split at h
      · rename_i c3
        cases h
        exact if_pos c3
      · rename_i c3
        refine (if_neg c3).trans ?_
        split at h
        · rename_i c4
          cases h
          exact if_pos c4
        · rename_i c4
          refine (if_neg c4).trans ?_
          split at h
          · cases h
          · rename_i c5
            cases h
            exact if_neg c5
end
end Fp

set_option maxHeartbeats 4000000
/-! Fp13: the meaning of a text is what the machine does: statements, defs -/
namespace Fp
open PySem PySem.Spec PyProof.Rows L2 RZ
section
variable {X : Cx} {S : Sta} {c : Cxt} {r : Cv}
theorem sw_sole {tg e : Expr} {line : Nat} {env : Env} (h : isComp e = false) : swapsWithSole [tg] e line env = pure false := swaps_no h
theorem sw_comp (G : Good X S c) {elt : Expr} {gens : List Comprehension} {scope : Scope} {cp tp : Pos} {t : Str} {line : Nat} : swapsWith (.ListComp elt gens scope cp) (some (.Name t tp)) line X.env = pure (swC S t tp cp scope) := by
  have hbk : X.env.blockKind = .function := by
    unfold Env.blockKind
    rw [G.sc, G.fk]
    rfl
  have hko : X.env.kindOf t = S.sc.names.lookup t := by
    show X.env.scope.names.lookup t = _
    rw [G.sc]
  unfold swapsWith swC
  simp only [hbk, hko]
  rfl
theorem cG_some {x : Str} {p : Pos} {i : Nat} (h : nmSlot S (.Name x p) = some i) : cG S (.Name x p) = .nm i := by
  unfold cG
  dsimp only
  rw [h]
theorem cG_none {x : Str} {p : Pos} (h : nmSlot S (.Name x p) = none) : cG S (.Name x p) = .no := by
  unfold cG
  dsimp only
  rw [h]
theorem t_setc {i : Nat} {p : Pos} {x : Str} {κ : KK} {A : SE} {t : TE} {E : Ends} {σ : L2.St} {H : Hp} (hi : nmSlot S (.Name x p) = some i) (ht : ∀ σ H Q, tE κ c A σ H Q → t σ H Q) (h : tS κ c (ssSet (cG S (.Name x p)) A) E σ H) : tAsg t (gName i) E σ H := by
  have q := t_set h
  rw [cG_some hi] at q
  exact ht _ _ _ q
theorem asgc_ok (R : CvOk r) (G : Good X S c) {x : Str} {p cp pos : Pos} {elt : Expr} {gens : List Comprehension} {scope : Scope} (ψ : List Addr) :
    PS X (.Assign [.Name x p] (.ListComp elt gens scope cp) pos) (tS (kk X ψ) c (ssSet (cG S (.Name x p)) (cComp r S elt gens scope cp))) := by
  cases hsw : swC S x p cp scope with
  | false =>
    have h1 : swapsWithSole [.Name x p] (.ListComp elt gens scope cp) pos.line X.env = pure false := (sw_comp G (line := pos.line)).trans (by rw [hsw])
    exact PS.imp (ps_asg (comp_ok R G ψ) (tg_ok G _) h1 rfl rfl) fun _ _ _ h => t_set h
  | true =>
    have hl : X.env.scope.names.lookup x = some .local := by
      unfold swC at hsw
      rw [Bool.and_eq_true, Bool.and_eq_true] at hsw
      rw [G.sc]
      exact eq_of_beq hsw.1.1
    cases hn : nmSlot S (.Name x p) with
    | none =>
      refine ⟨fun _ _ _ _ _ _ h => ?_⟩
      obtain ⟨φ, ρ, m, fr, M, q⟩ := h
      rw [cG_none hn] at q
      exfalso
      unfold ssSet at q
      cases e : cComp r S elt gens scope cp c ρ m with
      | ok z => rw [e] at q; exact q
      | exc _ _ _ => rw [e] at q; exact q
      | bad => rw [e] at q; exact q
    | some i =>
      obtain ⟨y, py, e, hi, hx, hf⟩ := nmSlot_ok G hn
      cases e
      have hN : X.N.Nodup := by rw [G.N]; exact G.nd
      have dead : PS X (.Assign [.Name x p] (.ListComp elt gens scope cp) pos) (tS (kk X ψ) c (ssSet (cG S (.Name x p)) sBad)) := ⟨fun _ _ _ _ _ _ h => by
        obtain ⟨φ, ρ, m, fr, M, q⟩ := h
        exact q.elim⟩
      unfold cComp
      split
      · rename_i tg iter ifs
        split
        · rename_i hb
          rw [Bool.and_eq_true, Bool.and_eq_true] at hb
          have ok := blk_of G hb.1.1
          have hset : isSet iter = false := by simpa using hb.2
          refine PS.imp (ps_setLc G.calm hN hi hl (by rw [sw_comp G, hsw]) (R.I G tg iter ψ) ok (fun s H C cl fp => tg_ok (G.blk s H scope ok.kind C cl fp) tg) (fun s H C cl fp => PTs.any fun ψ => ifs_ok R (G.blk s H scope ok.kind C cl fp) ψ) (fun s H C cl fp => PE.any fun ψ => R.E (G.blk s H scope ok.kind C cl fp) elt ψ) (folded_no hset)) fun E σ H h => t_setc hn (fun _ _ _ h => t_comp (own_sub hb.1.2) h) h
        · exact dead
      · rename_i tg iter tg1 iter1 ifs1
        split
        · rename_i hb
          rw [Bool.and_eq_true, Bool.and_eq_true, Bool.and_eq_true, Bool.and_eq_true] at hb
          have ok := blk_of G hb.1.1.1.1
          have hset : isSet iter = false := by simpa using hb.1.1.2
          have hset1 : isSet iter1 = false := by simpa using hb.1.2
          refine PS.imp (ps_setLc2 G.calm hN hi hl (by rw [sw_comp G, hsw]) (R.I G tg iter ψ) ok (own_sub hb.2) (fun s H C cl fp => tg_ok (G.blk s H scope ok.kind C cl fp) tg) (fun s H C cl fp => pts_nil)
            (fun s H C cl fp => PI.any fun ψ => R.I (G.blk s H scope ok.kind C cl fp) tg1 iter1 ψ) (fun s H C cl fp => tg_ok (G.blk s H scope ok.kind C cl fp) tg1) (fun s H C cl fp => PTs.any fun ψ => ifs_ok R (G.blk s H scope ok.kind C cl fp) ψ)
            (fun s H C cl fp => PE.any fun ψ => R.E (G.blk s H scope ok.kind C cl fp) elt ψ) (folded_no hset) (fun env => folded_no hset1)) fun E σ H h => t_setc hn (fun _ _ _ h => t_comp2 (own_sub hb.1.1.1.2) (fun i hi => hi) h) h
        · exact dead
      · exact dead
theorem slots2 {ts : List Expr} {is : List Nat} (h : nmSlots S ts = some is) (hl : (ts.all fun e => match e with | .Name x _ => onlyLocB S.sc x | _ => false) = true) (G : Good X S c) : ∃ xs : List (Str × Pos), ts = xs.map (fun y => Expr.Name y.1 y.2) ∧ xs.length = is.length ∧ ∀ (k : Nat) (y : Str × Pos) (i : Nat), xs[k]? = some y → is[k]? = some i → X.N[i]? = some y.1 ∧ X.env.scope.names.lookup y.1 = some .local := by
  induction ts generalizing is with
  | nil =>
    cases h
    exact ⟨[], rfl, rfl, fun k y i e => by simp at e⟩
  | cons e ts ih =>
    unfold nmSlots at h
    split at h
    · rename_i i is' h1 h2
      cases h
      rw [List.all_cons, Bool.and_eq_true] at hl
      obtain ⟨xs, e1, l1, q⟩ := ih h2 hl.2
      obtain ⟨x, pos, rfl, hi, hx, hf⟩ := nmSlot_ok G h1
      refine ⟨(x, pos) :: xs, by rw [e1]; rfl, by rw [List.length_cons, List.length_cons, l1], fun k y j ey ej => ?_⟩
      cases k with
      | zero =>
        simp only [List.getElem?_cons_zero, Option.some.injEq] at ey ej
        subst ey ej
        refine ⟨hi, ?_⟩
        rw [G.sc]
        exact onlyLoc_of hl.1
      | succ k =>
        simp only [List.getElem?_cons_succ] at ey ej
        exact q k y j ey ej
    · cases h
theorem par_ok (R : CvOk r) (G : Good X S c) {ts vs : List Expr} {kt kv : Nat} {pt pv pos : Pos} (ψ : List Addr) : PS X (.Assign [.Tuple ts kt pt] (.Tuple vs kv pv) pos) (tS (kk X ψ) c (cParS r S ts kt pt vs kv pv)) := by
  unfold cParS
  split
  · rename_i h
    exact PS.imp (ps_asg (R.E G (.Tuple vs kv pv) ψ) (tg_ok G _) (sw_sole rfl) (sw_par G h) rfl) fun _ _ _ h => t_set h
  · rename_i names h
    split
    · rename_i is his
      split
      · rename_i hb
        rw [Bool.and_eq_true, Bool.and_eq_true] at hb
        have hN : X.N.Nodup := by rw [G.N]; exact G.nd
        obtain ⟨xs, e1, l1, q⟩ := slots2 his hb.2 G
        have hw := sw_par (kt := kt) (kv := kv) (pt := pt) (pv := pv) G h
        -- the lengths
        have hlen : (ts.length = 2 ∨ ts.length = 3) ∧ vs.length = ts.length := by
          unfold swP at h
          split at h
          · cases h
          · rename_i c1
            simp only [Bool.or_eq_true, not_or, Bool.not_eq_true', Bool.not_eq_false, beq_iff_eq, bne_iff_ne, ne_eq, Decidable.not_not] at c1
            exact c1
        have hnames : names = xs.map (·.1) := by
          unfold swP at h
          split at h
          · cases h
          split at h
          · cases h
          dsimp only at h
          split at h
          · cases h
          · rename_i c3
            split at h
            · cases h
            split at h
            · cases h
            cases h
            subst e1
            have hf : ∀ (l : List (Str × Pos)) (f : Expr → Option Str), (∀ y ∈ l, f (.Name y.1 y.2) = some y.1 ∨ f (.Name y.1 y.2) = none) → (List.filterMap f (l.map fun y => Expr.Name y.1 y.2)).length = l.length → List.filterMap f (l.map fun y => Expr.Name y.1 y.2) = l.map (·.1) := by
              intro l f
              induction l with
              | nil => intros; rfl
              | cons y l ih =>
                intro hy hl
                rw [List.map_cons] at hl ⊢
                rcases hy y List.mem_cons_self with e | e
                · rw [List.filterMap_cons_some e] at hl ⊢
                  rw [ih (fun z hz => hy z (List.mem_cons_of_mem _ hz)) (by simpa using hl)]
                  rfl
                · rw [List.filterMap_cons_none e] at hl
                  have := List.length_filterMap_le f (l.map fun y => Expr.Name y.1 y.2)
                  rw [List.length_map] at this
                  rw [List.length_cons] at hl
                  omega
            refine hf xs _ (fun y hy => ?_) ?_
            · dsimp only
              split
              · exact .inl rfl
              · exact .inr rfl
            · have c3' := c3
              simp only [Bool.or_eq_true, not_or, bne_iff_ne, ne_eq, Decidable.not_not] at c3'
              rw [c3'.1, List.length_map]
        rw [hnames] at hw
        have hcount : ∀ i ∈ is, is.count i = 1 := fun i hi => by
          have := hb.1.1
          rw [List.all_eq_true] at this
          exact of_decide_eq_true (this i hi)
        have hlx : xs.length = 2 ∨ xs.length = 3 := by
          rw [e1, List.length_map] at hlen
          exact hlen.1
        rcases hlx with hlx | hlx
        · obtain ⟨x, y, rfl⟩ : ∃ x y, xs = [x, y] := by
            match xs, hlx with
            | [x, y], _ => exact ⟨x, y, rfl⟩
          obtain ⟨i, j, rfl⟩ : ∃ i j, is = [i, j] := by
            match is, l1 with
            | [i, j], _ => exact ⟨i, j, rfl⟩
          obtain ⟨a, b, rfl⟩ : ∃ a b, vs = [a, b] := by
            subst e1
            match vs, hlen.2 with
            | [a, b], _ => exact ⟨a, b, rfl⟩
          subst e1
          obtain ⟨n1, k1⟩ := q 0 x i rfl rfl
          obtain ⟨n2, k2⟩ := q 1 y j rfl rfl
          have hij : i ≠ j := fun z => by
            have := hcount i (by simp)
            subst z
            simp at this
          exact PS.imp (ps_par G.calm hN n1 n2 hij k1 k2 (args_ok R G ψ hb.1.2) hw (sw_sole rfl)) fun _ _ _ h => t_par h
        · obtain ⟨x, y, z, rfl⟩ : ∃ x y z, xs = [x, y, z] := by
            match xs, hlx with
            | [x, y, z], _ => exact ⟨x, y, z, rfl⟩
          obtain ⟨i, j, k, rfl⟩ : ∃ i j k, is = [i, j, k] := by
            match is, l1 with
            | [i, j, k], _ => exact ⟨i, j, k, rfl⟩
          obtain ⟨a, b, d, rfl⟩ : ∃ a b d, vs = [a, b, d] := by
            subst e1
            match vs, hlen.2 with
            | [a, b, d], _ => exact ⟨a, b, d, rfl⟩
          subst e1
          obtain ⟨n1, k1⟩ := q 0 x i rfl rfl
          obtain ⟨n2, k2⟩ := q 1 y j rfl rfl
          obtain ⟨n3, k3⟩ := q 2 z k rfl rfl
          have hd : i ≠ j ∧ i ≠ k ∧ j ≠ k := by
            have h1 := hcount i (by simp)
            have h2 := hcount j (by simp)
            refine ⟨fun e => ?_, fun e => ?_, fun e => ?_⟩
            · subst e
              rw [List.count_cons_self, List.count_cons_self] at h1
              omega
            · subst e
              rw [List.count_cons_self, List.count_cons, List.count_cons_self] at h1
              omega
            · subst e
              rw [List.count_cons, List.count_cons_self, List.count_cons_self] at h2
              omega
          exact PS.imp (ps_par3 G.calm hN n1 n2 n3 hd.1 hd.2.1 hd.2.2 k1 k2 k3 (args_ok R G ψ hb.1.2) hw (sw_sole rfl)) fun _ _ _ h => t_par3 h
      · exact ps_bad
    · exact ps_bad
  · exact ps_bad
theorem sw_none1 {tg e : Expr} {env : Env} (h : ∀ es k p vs k2 p2, tg = .Tuple es k p → e = .Tuple vs k2 p2 → False) (h2 : ∀ es p, tg ≠ .List es p) : swappedStores [tg] e env = pure none := by
  cases tg with
  | Tuple es k p =>
    cases e with
    | Tuple vs k2 p2 => exact (h _ _ _ _ _ _ rfl rfl).elim
    | _ => rfl
  | List es p => exact (h2 _ _ rfl).elim
  | _ => rfl
theorem asg_ok (R : CvOk r) (G : Good X S c) {tg e : Expr} {pos : Pos} (ψ : List Addr) : PS X (.Assign [tg] e pos) (tS (kk X ψ) c (cAsg r S tg e)) := by
  have u := G.un
  unfold cAsg
  split
  · rename_i o i p
    split
    · rename_i hb
      rw [Bool.and_eq_true] at hb
      exact PS.imp (ps_asg (R.E G e ψ) (pg_sub (R.E G o ψ) (R.E G i ψ) (pu_D (by omega)) (assign_plain hb.1)) (sw_sole (by simpa using hb.2)) rfl rfl) fun _ _ _ h => t_put h
    · exact ps_bad
  · rename_i ts kt pt
    split
    · exact par_ok R G ψ
    · rename_i hne
      split
      · exact ps_bad
      · rename_i hc
        exact PS.imp (ps_asg (R.E G _ ψ) (tg_ok G _) (sw_sole (by simpa using hc)) (sw_none1 (fun _ _ _ vs k2 p2 _ e2 => hne vs k2 p2 e2) (fun _ _ z => by cases z)) rfl) fun _ _ _ h => t_set h
  · rename_i x p
    split
    · exact asgc_ok R G ψ
    · rename_i hne
      split
      · exact ps_bad
      · rename_i hc
        exact PS.imp (ps_asg (R.E G _ ψ) (tg_ok G _) (sw_sole (by simpa using hc)) rfl rfl) fun _ _ _ h => t_set h
  · exact ps_bad
theorem stS_ok (R : CvOk r) (G : Good X S c) (hp : PassesOwn (model X.prog X.w) X.A X.env X.xe) (st : Stmt) (ψ : List Addr) : PS X st (tS (kk X ψ) c (stS r S st)) := by
  have u := G.un
  have hN : X.N.Nodup := by rw [G.N]; exact G.nd
  unfold stS
  split
  · exact asg_ok R G ψ
  · split
    · rename_i f hf
      split
      · rename_i x p
        split
        · rename_i i hi
          obtain ⟨y, py, e, hi, hx, hfn⟩ := nmSlot_ok G hi
          cases e
          exact PS.imp (ps_aug hN hi hx (R.E G _ ψ) (iop_ok hf ψ) hfn) fun _ _ _ h => t_aug h
        · exact ps_bad
      · split
        · rename_i hs
          exact PS.imp (ps_augS (R.E G _ ψ) (R.E G _ ψ) (pg_get (by omega)) (R.E G _ ψ) (iop_ok hf ψ) (pu_D (by omega)) (augStore_plain hs)) fun _ _ _ h => t_augS h
        · exact ps_bad
      · exact ps_bad
    · exact ps_bad
  · exact PS.imp ps_doc fun _ _ _ h => t_nx h
  · split
    · exact ps_bad
    · rename_i hc
      exact PS.imp (ps_expr (R.E G _ ψ) (swaps_no (by simpa using hc))) fun _ _ _ h => t_expr h
  · exact PS.imp (ps_ret (R.E G _ ψ)) fun _ _ _ h => t_ret h
  · exact PS.imp ps_retN fun _ _ _ h => t_retN h
  · exact PS.imp (ps_if (R.T G _ ψ) (R.B G hp _ ψ) (R.B G hp _ ψ)) fun _ _ _ h => t_if h
  · exact PS.imp (ps_while hp (R.T G _ ψ) (R.B G hp _ ψ)) fun _ _ _ h => t_while h
  · split
    · exact ps_bad
    · rename_i hs
      exact PS.imp (ps_for hp G.calm (R.I G _ _ ψ) (tg_ok G _) (R.B G hp _ ψ) (folded_no (by simpa using hs))) fun _ _ _ h => t_for h
  · exact PS.imp ps_pass fun _ _ _ h => t_nx h
  · exact PS.imp ps_break fun _ _ _ h => t_brk h
  · exact PS.imp ps_continue fun _ _ _ h => t_cnt h
  · exact ps_bad
theorem stB_ok (R : CvOk r) (G : Good X S c) (hp : PassesOwn (model X.prog X.w) X.A X.env X.xe) (ψ : List Addr) : ∀ b : List Stmt, PSs X b (tS (kk X ψ) c (stB r S b))
  | [] => PSs.imp pss_nil fun _ _ _ h => t_nx h
  | s :: rest => PSs.imp (pss_cons (stS_ok R G hp s ψ) (stB_ok R G hp ψ rest)) fun _ _ _ h => t_seqS h
end
theorem cv_ok : ∀ n : Nat, CvOk (cv n)
  | 0 => ⟨fun _ _ _ => pe_bad, fun _ _ _ => pt_bad, fun _ _ _ _ => pi_bad, fun _ _ _ _ => pss_bad⟩
  | n + 1 => ⟨fun G e ψ => stE_ok (cv_ok n) G e ψ, fun G e ψ => stT_ok (cv_ok n) G e ψ, fun G g e ψ => stI_ok (cv_ok n) G g e ψ, fun G hp b ψ => stB_ok (cv_ok n) G hp ψ b⟩
end Fp

set_option maxHeartbeats 4000000
/-! Fp14: a table of defs; each keeps its promise -/
namespace Fp
open PySem PySem.Spec PyProof.Rows L2 RZ
structure Df where
  name : Str
  args : Arguments
  body : List Stmt
  scope : Scope
  N : List Str
  ps : List Str
  alt : List (Nat × Nat)
structure Tb where
  defs : List Df
  bis : List Str
  ks : List (Str × Str)
  kd : List (Str × List (Str × D))
  deep : Nat
def Tb.sta (T : Tb) (d : Df) : Sta := ⟨d.N, d.scope, fun _ => true, d.alt, T.defs.map (fun d => (d.name, d.ps.length)), T.bis, T.ks, T.kd⟩
def Tb.sem (T : Tb) (d : Df) : SS := (cv T.deep).B (T.sta d) d.body
def Tb.tab (T : Tb) (x : Str) : Option FnE := (T.defs.find? fun d => d.name == x).map fun d => ⟨d.ps.length, d.N.length, T.sem d⟩
/-- what stands in K -/
structure TbOk (T : Tb) (K : PySem.W.Frag) (mg : Str → Option Value) (w : World) : Prop where
  defs : ∀ d ∈ T.defs, ∃ f fd, FunD K d.name d.name d.args d.body d.scope [] [] f fd ∧ mg d.name = some (.ref f)
  bind : ∀ d ∈ T.defs, ∀ (kV doc pm : Value) (an : Option Addr) (cdv ct : Value) (us : List Value), us.length = d.ps.length → bindArgs (PySem.W.fnOf d.name d.name d.args d.body d.scope .none kV doc pm an cdv ct) ⟨us, []⟩ = pure (d.ps.zip us)
  sco : ∀ d ∈ T.defs, FnScope d.N d.ps d.scope
  bis : ∀ x, T.bis.contains x = true → mg x = none
  ks : ∀ x z, T.ks.lookup x = some z → ∃ u, mg x = some u ∧ RelV (.str z) u
  kd : ∀ x kvs, T.kd.lookup x = some kvs → ∃ d es n, mg x = some (.ref d) ∧ KDict K w d es n ∧ ∀ z, ∃ r, PySem.W.nsIn K d z = some r ∧
    match kvs.lookup z with
    | some dv => ∃ u0 v0, r = some u0 ∧ RelV v0 u0 ∧ ∀ ψ φ H, Rep ⟨K, ψ⟩ φ H dv v0
    | none => r = none
theorem find_of_lookup : ∀ {l : List Df} {x : Str} {n : Nat}, (l.map fun d => (d.name, d.ps.length)).lookup x = some n → ∃ d, l.find? (fun d => d.name == x) = some d
  | [], _, _, h => by cases h
  | d :: l, x, n, h => by
    rw [List.map_cons] at h
    rw [List.find?_cons]
    cases q : d.name == x with
    | true => exact ⟨d, rfl⟩
    | false =>
      rw [List.lookup_cons] at h
      have q2 : (x == d.name) = false := by
        rw [beq_eq_false_iff_ne] at q ⊢
        exact fun z => q z.symm
      rw [q2] at h
      exact find_of_lookup h
theorem fr_start {κ : KK} {φ : List Addr} {H : Hp} {ds : List D} {vs : List V} {n : Nat} (r : Reps κ φ H ds vs) : FrR κ φ H (ds.map some ++ List.replicate (n - ds.length) none) (vs.map some ++ List.replicate (n - vs.length) none) := by
  refine ⟨by simp [r.len], fun i d h => ?_⟩
  by_cases hi : i < ds.length
  · rw [List.getElem?_append_left (by rw [List.length_map]; exact hi), List.getElem?_map] at h
    obtain ⟨e, h1, h2⟩ := Option.map_eq_some_iff.mp h
    cases h2
    obtain ⟨v, hv, q⟩ := r.get h1
    refine ⟨v, ?_, q⟩
    rw [List.getElem?_append_left (by rw [List.length_map, ← r.len]; exact hi), List.getElem?_map, hv]
    rfl
  · rw [List.getElem?_append_right (by rw [List.length_map]; omega)] at h
    have := List.mem_of_getElem? h
    rw [List.mem_replicate] at this
    cases this.2
section
variable {T : Tb} {P : Program} {w : World} {K : PySem.W.Frag} {mg : Str → Option Value} {base : Heap}
theorem fn_ok (O : TbOk T K mg w) (L : Nat) : ∀ (n : Nat) (x : Str) (d : Df), T.defs.find? (fun d => d.name == x) = some d →
    ∃ f fd, mg x = some (.ref f) ∧ PySem.W.keepIn K (.ref f) = true ∧ Binds K fd d.ps [] ∧ FunD K d.name d.name d.args d.body d.scope [] [] f fd ∧ FnOk P w K mg base CX0 n f fd d.ps (spD K ⟨callN T.tab L n, L⟩ x) := by
  intro n
  induction n with
  | zero =>
    intro x d hd
    have hm := List.mem_of_find?_eq_some hd
    have hx : d.name = x := by simpa using List.find?_some hd
    obtain ⟨f, fd, F, hf⟩ := O.defs d hm
    refine ⟨f, fd, by rw [← hx]; exact hf, F.kp, F.bindsN (O.bind d hm), F, ⟨fun vs H Q E h => ?_, fun A outer s H args us vs Q E _ _ _ _ h => ?_⟩⟩
    · obtain ⟨_, _, _, _, _, _, p⟩ := h
      exact p.elim
    · obtain ⟨_, _, _, _, _, _, p⟩ := h
      exact p.elim
  | succ n ih =>
    intro x d hd
    have hm := List.mem_of_find?_eq_some hd
    have hx : d.name = x := by simpa using List.find?_some hd
    obtain ⟨f, fd, F, hf⟩ := O.defs d hm
    have sc := O.sco d hm
    have tb : T.tab x = some ⟨d.ps.length, d.N.length, T.sem d⟩ := by
      unfold Tb.tab
      rw [hd]
      rfl
    have open_ : ∀ {vs : List V} {H : Hp} {Q : VK} {E : XK}, spD K ⟨callN T.tab L (n + 1), L⟩ x vs H Q E → ∃ ψ φ m ds, MRep ⟨K, ψ⟩ φ H m ∧ Reps ⟨K, ψ⟩ φ H ds vs ∧ ds.length = d.ps.length ∧
        PoE ⟨K, ψ⟩ φ H Q (finish m.length (T.sem d ⟨callN T.tab L n, L⟩ (ds.map some ++ List.replicate (d.N.length - ds.length) none) m)) := by
      intro vs H Q E h
      obtain ⟨ψ, φ, m, ds, M, r, p⟩ := h
      have p : PoE ⟨K, ψ⟩ φ H Q (callN T.tab L (n + 1) x ds m) := p
      unfold callN at p
      rw [tb] at p
      dsimp only at p
      split at p
      · rename_i hl
        exact ⟨ψ, φ, m, ds, M, r, hl, p⟩
      · exact p.elim
    refine ⟨f, fd, by rw [← hx]; exact hf, F.kp, F.bindsN (O.bind d hm), F, F.ok sc (fun vs H Q E h => ?_) (fun cdv A outer s H vs Q E hr h => ?_)⟩
    · obtain ⟨ψ, φ, m, ds, M, r, hl, _⟩ := open_ h
      rw [← r.len, hl]
    · obtain ⟨ψ, φ, m, ds, M, r, hl, p⟩ := open_ h
      have G : Good (cxOf CX0 P w K mg base d.N d.name d.scope f cdv A outer s H E) (T.sta d) ⟨callN T.tab L n, L⟩ := {
        N := rfl
        nd := sc.nd
        sc := rfl
        fk := sc.kind
        fn := fun _ _ => rfl
        calm := rfl
        un := by
          have := hr.un
          show (A.deeper _).units + 200 < cLine
          omega
        bi := O.bis
        ks := O.ks
        kd := O.kd
        call := fun y np hy => by
          obtain ⟨d', hd'⟩ := find_of_lookup hy
          obtain ⟨f', fd', h1, h2, h3, _, h4⟩ := ih y d' hd'
          exact ⟨n, f', fd', d'.ps, h4, hr, h1, h2, h3⟩ }
      refine ⟨tS ⟨K, ψ⟩ ⟨callN T.tab L n, L⟩ (T.sem d), PSs.nox ((cv_ok T.deep).B G.nox PassesOwn.never d.body ψ), ?_⟩
      refine ⟨φ, _, m, fr_start (n := d.N.length) r, M, ?_⟩
      exact finish_ok M p
end
end Fp

set_option maxHeartbeats 4000000
/-! Fp15: the table's facts from what is seen behind the top; the law's end -/
namespace Fp
open PySem PySem.Spec PyProof.Rows L2 RZ
/-! ### constants of the module -/
mutual
def repB (K : PySem.W.Frag) : Nat → D → Value → Bool
  | 0, _, _ => false
  | n + 1, d, u =>
    match d, u with
    | .non, .none => true
    | .bl b, .bool c => b == c
    | .int i, .int j _ => decide (i = j)
    | .str x, .str y _ => decide (x = y)
    | .tup ds, .ref a => (match K.lookup a with
      | some ⟨.type c, _, .seq its _, _⟩ => decide (c = "tuple") && decide (its.size ≤ sizeLine) && repsB K n ds its.toList
      | _ => false)
    | _, _ => false
def repsB (K : PySem.W.Frag) : Nat → List D → List Value → Bool
  | 0, _, _ => false
  | n + 1, ds, us =>
    match ds, us with
    | [], [] => true
    | d :: ds, u :: us => repB K n d u && repsB K n ds us
    | _, _ => false
end
theorem rep_of {K : PySem.W.Frag} : ∀ (n : Nat), (∀ (d : D) (u : Value), repB K n d u = true → ∃ v, RelV v u ∧ ∀ ψ φ H, Rep ⟨K, ψ⟩ φ H d v) ∧ (∀ (ds : List D) (us : List Value), repsB K n ds us = true → ∃ vs, Vals vs us ∧ ∀ ψ φ H, Reps ⟨K, ψ⟩ φ H ds vs) := by
  intro n
  induction n with
  | zero => exact ⟨fun d u h => (by rw [repB] at h; cases h), fun d u h => (by rw [repsB] at h; cases h)⟩
  | succ n ih =>
    refine ⟨fun d u h => ?_, fun ds us h => ?_⟩
    · unfold repB at h
      split at h
      · exact ⟨.non, rfl, fun _ _ _ => rfl⟩
      · rename_i b c
        obtain rfl : b = c := eq_of_beq h
        exact ⟨.bl b, rfl, fun _ _ _ => rfl⟩
      · rename_i i j t
        obtain rfl : i = j := of_decide_eq_true h
        exact ⟨.int i, ⟨t, rfl⟩, fun _ _ _ => rfl⟩
      · rename_i x y t
        obtain rfl : x = y := of_decide_eq_true h
        exact ⟨.str x, ⟨t, rfl⟩, fun _ _ _ => rfl⟩
      · rename_i ds a
        split at h
        · rename_i cn od its k sl hk
          rw [Bool.and_eq_true, Bool.and_eq_true] at h
          obtain ⟨vs, r, q⟩ := ih.2 ds _ h.2
          have e1 : cn = "tuple" := of_decide_eq_true h.1.1
          exact ⟨.ref a, rfl, fun ψ φ H => ⟨a, vs, rfl, .inr ⟨_, its, k, hk, congrArg Value.type e1, rfl, of_decide_eq_true h.1.2, r⟩, q ψ φ H⟩⟩
        · cases h
      · cases h
    · unfold repsB at h
      split at h
      · exact ⟨[], .nil, fun _ _ _ => rfl⟩
      · rename_i d ds u us
        rw [Bool.and_eq_true] at h
        obtain ⟨v, r, q⟩ := ih.1 d u h.1
        obtain ⟨vs, rs, qs⟩ := ih.2 ds us h.2
        exact ⟨v :: vs, .cons r rs, fun ψ φ H => Reps.cons (q ψ φ H) (qs ψ φ H)⟩
      · cases h
/-- the values of a written dict -/
def kdValsB (K : PySem.W.Frag) (a : Addr) (kvs : List (Str × D)) : Bool := kvs.all fun q => match PySem.W.nsIn K a q.1 with
  | some (some u) => repB K 20 q.2 u
  | _ => false
theorem lookup_mem {α : Type} {z : Str} {v : α} : ∀ {l : List (Str × α)}, l.lookup z = some v → (z, v) ∈ l
  | [], h => by cases h
  | (y, u) :: l, h => by
    rw [List.lookup_cons] at h
    cases q : z == y with
    | true =>
      rw [q] at h
      cases h
      rw [eq_of_beq q]
      exact List.mem_cons_self
    | false =>
      rw [q] at h
      exact List.mem_cons_of_mem _ (lookup_mem h)
theorem lookup_none {α : Type} {z : Str} : ∀ {l : List (Str × α)}, l.lookup z = none → z ∉ l.map (·.1)
  | [], _ => by simp
  | (y, u) :: l, h => by
    rw [List.lookup_cons] at h
    cases q : z == y with
    | true =>
      rw [q] at h
      cases h
    | false =>
      rw [q] at h
      rw [List.map_cons, List.mem_cons, not_or]
      exact ⟨beq_eq_false_iff_ne.mp q, lookup_none h⟩
theorem ns_none {K : PySem.W.Frag} {w : World} {a : Addr} {ks : List Str} {z : Str} (h : He.dicW K a = some (He.keysIn w.params ks)) (hz : z ∉ ks) : PySem.W.nsIn K a z = some none := by
  unfold He.dicW at h
  unfold PySem.W.nsIn
  split at h
  · rename_i cn es n sl hk
    rw [hk]
    dsimp only
    split at h
    · have e : es.toList.map He.keyOf = He.keysIn w.params ks := Option.some.inj h
      have key : ∀ x ∈ es.toList, ∃ y t, x.key = .str y t ∧ y ∈ ks := fun x hx => by
        have m : He.keyOf x ∈ He.keysIn w.params ks := by
          rw [← e]
          exact List.mem_map_of_mem hx
        unfold He.keysIn at m
        obtain ⟨y, hy, e2⟩ := List.mem_map.mp m
        unfold He.keyOf at e2
        split at e2
        · rename_i y' t q
          have e3 := Option.some.inj e2
          have e4 : y = y' := congrArg Prod.fst e3
          exact ⟨y', t, q, by rw [← e4]; exact hy⟩
        · cases e2
      have h1 : es.toList.find? (·.key.isStr z) = none := by
        rw [List.find?_eq_none]
        intro x hx
        obtain ⟨y, t, q, hy⟩ := key x hx
        rw [q]
        intro c
        have : y = z := by simpa [Value.isStr] using c
        exact hz (this ▸ hy)
      have h2 : es.toList.any (·.refKey) = false := by
        rw [List.any_eq_false]
        intro x hx
        obtain ⟨y, t, q, hy⟩ := key x hx
        unfold DictEntry.refKey
        rw [q]
        simp
      rw [h1, h2]
      rfl
    · cases h
  · cases h
/-! ### the hook of a table -/
def Tb.fn (T : Tb) : List He.DefD := T.defs.map fun d => ⟨(d.name, none), d.name, d.name, d.args, d.body, d.scope, [], []⟩
def Tb.fa (T : Tb) : List He.Fa := T.defs.map (fun d => He.Fa.glo d.name) ++ (T.bis.map He.Fa.free ++ (T.ks.map (fun p => He.Fa.str p.1 p.2) ++ T.kd.map fun p => He.Fa.glo p.1))
def Tb.ts (T : Tb) : List He.Tab := T.kd.map fun p => (fun K => He.ga K p.1, p.2.map (·.1))
def Tb.ex (T : Tb) (K : PySem.W.Frag) : Bool := T.kd.all fun p => kdValsB K (He.ga K p.1) p.2
def BindOk (d : Df) : Prop := ∀ (kV doc pm : Value) (an : Option Addr) (cdv ct : Value) (us : List Value), us.length = d.ps.length → bindArgs (PySem.W.fnOf d.name d.name d.args d.body d.scope .none kV doc pm an cdv ct) ⟨us, []⟩ = pure (d.ps.zip us)
theorem TbOk.of {T : Tb} {K : PySem.W.Frag} {mg : Str → Option Value} {w : World} {h : Heap} (X : K.In h) (G : h.Ns mainGlobals mg) (c : He.SaysX T.fa T.fn T.ts [] T.ex w h K) (hb : ∀ d ∈ T.defs, BindOk d) (hs : ∀ d ∈ T.defs, FnScope d.N d.ps d.scope) : TbOk T K mg w := by
  have fact : ∀ {f : He.Fa}, f ∈ T.fa → f.ok K = true := fun m => c.t.d.facts m
  refine ⟨fun d hd => ?_, hb, hs, fun x hx => ?_, fun x z hz => ?_, fun x kvs hx => ?_⟩
  · have m : (⟨(d.name, none), d.name, d.name, d.args, d.body, d.scope, [], []⟩ : He.DefD) ∈ T.fn := List.mem_map_of_mem hd
    obtain ⟨fd, F⟩ := c.t.d.defs m
    exact ⟨_, fd, F, He.glo_ok X G (fact (List.mem_append_left _ (List.mem_map_of_mem hd)))⟩
  · have m : x ∈ T.bis := by simpa using hx
    exact He.free_ok X G (fact (List.mem_append_right _ (List.mem_append_left _ (List.mem_map_of_mem m))))
  · have m : (x, z) ∈ T.ks := lookup_mem hz
    obtain ⟨t, e⟩ := He.str_ok X G (fact (f := .str x z) (List.mem_append_right _ (List.mem_append_right _ (List.mem_append_left _ (List.mem_map.mpr ⟨(x, z), m, rfl⟩)))))
    exact ⟨_, e, ⟨t, rfl⟩⟩
  · have m : (x, kvs) ∈ T.kd := lookup_mem hx
    have g := He.glo_ok X G (fact (f := .glo x) (List.mem_append_right _ (List.mem_append_right _ (List.mem_append_right _ (List.mem_map.mpr ⟨(x, kvs), m, rfl⟩)))))
    obtain ⟨i, hi, ei⟩ := List.mem_iff_getElem.mp m
    have hi' : T.kd[i]? = some (x, kvs) := by rw [List.getElem?_eq_getElem hi, ei]
    have et : T.ts[i]? = some ((fun K => He.ga K x, kvs.map (·.1)) : He.Tab) := by
      unfold Tb.ts
      rw [List.getElem?_map, hi']
      rfl
    obtain ⟨es, n, D⟩ := c.t.tab i et
    have hw : He.dicW K (He.ga K x) = some (He.keysIn w.params (kvs.map (·.1))) := by
      have e : T.ts.map (fun t => He.dicW K (t.1 K)) = T.ts.map fun t => some (He.keysIn w.params t.2) := congrArg (fun z : He.AlT => z.2) c.t
      have e2 : (T.ts.map fun t => He.dicW K (t.1 K))[i]? = (T.ts.map fun t => some (He.keysIn w.params t.2))[i]? := by rw [e]
      rw [List.getElem?_map, List.getElem?_map, et] at e2
      exact Option.some.inj e2
    refine ⟨He.ga K x, es, n, g, D, fun z => ?_⟩
    cases q : kvs.lookup z with
    | none => exact ⟨none, ns_none hw (lookup_none q), rfl⟩
    | some dv =>
      have hv := List.all_eq_true.mp c.more (x, kvs) m
      have h2 := List.all_eq_true.mp hv (z, dv) (lookup_mem q)
      dsimp only at h2
      split at h2
      · rename_i u hu
        obtain ⟨v, r, rp⟩ := (rep_of 20).1 dv u h2
        exact ⟨some u, hu, u, v, rfl, r, rp⟩
      · cases h2
/-! ### the law's end -/
theorem MRep.empty {κ : KK} {H : Hp} (h : κ.ps = []) : MRep κ [] H [] := by
  refine ⟨List.nodup_nil, rfl, fun n o e => ?_, fun a z => ?_⟩
  · simp at e
  · rw [h] at z
    cases z
/-- what is to be shown of the meanings -/
def LawTrue (T : Tb) (n L k : Nat) : Prop := ∀ (ns : List Int) (d : D), ns.length ≤ k → (d = .scr ns ∨ d = .lst (ns.map D.int)) → ∃ m, callN T.tab L n "law" [d] [] = .ok (.bl true, m)
theorem law_sp {T : Tb} {K : PySem.W.Frag} {n L k : Nat} (h : LawTrue T n L k) (H : Hp) (a : Addr) (ns : List Int) (hl : ns.length ≤ k) (hS : SqL K H a (ns.map V.int)) : spD K ⟨callN T.tab L n, L⟩ "law" [.ref a] H (fun v _ => v = .bl true) fun _ _ _ => False := by
  have fin : ∀ d : D, (d = .scr ns ∨ d = .lst (ns.map D.int)) → Rep ⟨K, []⟩ [] H d (.ref a) → spD K ⟨callN T.tab L n, L⟩ "law" [.ref a] H (fun v _ => v = .bl true) fun _ _ _ => False := fun d hd r => by
    obtain ⟨m, e⟩ := h ns d hl hd
    refine ⟨[], [], [], [d], MRep.empty rfl, Reps.cons r Reps.nil, ?_⟩
    show PoE _ _ _ _ (callN T.tab L n "law" [d] [])
    rw [e]
    exact fun v φ' H' _ _ rv => rv
  rcases hS with (hS | ⟨o, hS⟩) | hS
  · exact fin (.lst (ns.map D.int)) (.inr rfl) ⟨a, _, rfl, hS, ⟨by simp, by simp⟩, Reps.ints⟩
  · exact fin (.scr ns) (.inl rfl) ⟨a, rfl, .inl ⟨o, hS⟩⟩
  · exact fin (.scr ns) (.inl rfl) ⟨a, rfl, .inr hS⟩
theorem law_facts {T : Tb} {P : Program} {K : PySem.W.Frag} {mg : Str → Option Value} {w : World} {h : Heap} {fa : Addr} {dl : Df} {n L k : Nat} (X : K.In h) (G : h.Ns mainGlobals mg) (c : He.SaysX T.fa T.fn T.ts [] T.ex w h K) (hb : ∀ d ∈ T.defs, BindOk d) (hs : ∀ d ∈ T.defs, FnScope d.N d.ps d.scope)
    (hd : T.defs.find? (fun d => d.name == ("law" : Str)) = some dl) (hp : dl.ps = [("script" : Str)]) (hf : mg ("law" : Str) = some (.ref fa)) (lt : LawTrue T n L k) :
    ∃ (K : PySem.W.Frag) (fd : FuncData) (sp : Sp), K.In h ∧ (∀ (s : Shared) (u : Value), BindsTo s fd ⟨[u], []⟩ [("script", u)]) ∧
        (∀ (H : Hp) (a : Addr) (ns : List Int), ns.length ≤ k → Only H → SqL K H a (ns.map V.int) → sp [.ref a] H (fun v _ => v = .bl true) fun _ _ _ => False) ∧
        ∀ base : Heap, K.In base → base.Ns mainGlobals mg → FnOk P w K mg base CX0 n fa fd [("script" : Str)] sp := by
  have O := TbOk.of X G c hb hs
  obtain ⟨f, fd, h1, _, _, F, _⟩ := fn_ok (P := P) (base := h) O L n "law" dl hd
  have e : f = fa := by
    rw [h1] at hf
    exact Value.ref.inj (Option.some.inj hf)
  subst e
  have hm := List.mem_of_find?_eq_some hd
  refine ⟨K, fd, spD K ⟨callN T.tab L n, L⟩ "law", X, fun s u => ?_, fun H a ns hl _ hS => law_sp lt H a ns hl hS, fun base kb gb => ?_⟩
  · have b := FunD.bindsA (ps := dl.ps) F (hb dl hm) s [u] (by rw [hp]; rfl)
    rw [hp] at b
    exact b
  · obtain ⟨f2, fd2, g1, _, _, F2, q⟩ := fn_ok (P := P) (base := base) O L n "law" dl hd
    have e2 : f2 = f := by
      rw [h1] at g1
      exact (Value.ref.inj (Option.some.inj g1)).symm
    subst e2
    obtain ⟨oc, od, dV, kV, doc, pm, an, cdv, ct, osl, rfl, lk, _⟩ := F.ex
    obtain ⟨oc2, od2, dV2, kV2, doc2, pm2, an2, cdv2, ct2, osl2, rfl, lk2, _⟩ := F2.ex
    rw [lk] at lk2
    cases lk2
    rw [← hp]
    exact q
end Fp

set_option maxHeartbeats 4000000
/-! K05m: terms, their names, putting in, names made apart: plain -/
namespace K05
open PySem Fp
/-! ### sorted sets of texts -/
theorem mem_addS {L : List Str} {k x : Str} : x ∈ addS L k ↔ x ∈ L ∨ x = k := by
  unfold addS
  split
  · rename_i h
    exact ⟨.inl, fun q => q.elim id fun e => e ▸ h⟩
  · rw [List.mem_append, List.mem_singleton]
theorem nodup_addS {L : List Str} {k : Str} (h : L.Nodup) : (addS L k).Nodup := by
  unfold addS
  split
  · exact h
  · rename_i hk
    rw [List.nodup_append]
    refine ⟨h, by simp, fun a ha b hb => ?_⟩
    rw [List.mem_singleton.mp hb]
    exact fun e => hk (e ▸ ha)
theorem mem_fold : ∀ {xs L : List Str} {x : Str}, x ∈ xs.foldl addS L ↔ x ∈ L ∨ x ∈ xs
  | [], L, x => by simp
  | y :: xs, L, x => by
    rw [List.foldl_cons, mem_fold, mem_addS, List.mem_cons, or_assoc]
theorem nodup_fold : ∀ {xs L : List Str}, L.Nodup → (xs.foldl addS L).Nodup
  | [], L, h => h
  | y :: xs, L, h => nodup_fold (xs := xs) (nodup_addS h)
def ss (xs : List Str) : List Str := sortS (ddS xs)
theorem mem_dd {xs : List Str} {x : Str} : x ∈ ddS xs ↔ x ∈ xs := by
  unfold ddS
  rw [mem_fold]
  simp
theorem mem_ss {xs : List Str} {x : Str} : x ∈ ss xs ↔ x ∈ xs := by
  unfold ss
  rw [(sortS_perm _).mem_iff, mem_dd]
theorem nodup_dd (xs : List Str) : (ddS xs).Nodup := nodup_fold List.nodup_nil
theorem nodup_ss (xs : List Str) : (ss xs).Nodup := (sortS_perm _).nodup_iff.mpr (nodup_dd xs)
theorem ss_ext {xs ys : List Str} (h : ∀ x, x ∈ xs ↔ x ∈ ys) : ss xs = ss ys := by
  unfold ss
  refine sorted_eq (sortS_sorted _) (sortS_sorted _) ((sortS_perm _).trans (List.Perm.trans ?_ (sortS_perm _).symm))
  refine (List.perm_ext_iff_of_nodup (nodup_dd xs) (nodup_dd ys)).mpr fun x => ?_
  rw [mem_dd, mem_dd, h]
theorem dd_len (xs : List Str) : (ddS xs).length ≤ xs.length := by
  have := fold_len xs []
  simpa [ddS] using this
theorem ss_len (xs : List Str) : (ss xs).length ≤ xs.length := by
  unfold ss
  rw [(sortS_perm _).length_eq]
  exact dd_len xs
theorem dd_nodup {xs : List Str} (h : xs.Nodup) : ddS xs = xs := by
  have go : ∀ (ys L : List Str), (L ++ ys).Nodup → ys.foldl addS L = L ++ ys := by
    intro ys
    induction ys with
    | nil => intro L _; simp
    | cons y ys ih =>
      intro L hn
      have hy : y ∉ L := fun q => by
        rw [List.nodup_append] at hn
        exact hn.2.2 y q y List.mem_cons_self rfl
      rw [List.foldl_cons, show addS L y = L ++ [y] from if_neg hy, ih _ (by simpa using hn)]
      simp
  exact go xs [] (by simpa using h)
theorem dd_len_iff {xs : List Str} : (ddS xs).length = xs.length ↔ xs.Nodup := by
  refine ⟨fun h => ?_, fun h => by rw [dd_nodup h]⟩
  have go : ∀ (ys L : List Str), L.Nodup → (ys.foldl addS L).length = L.length + ys.length → (L ++ ys).Nodup := by
    intro ys
    induction ys with
    | nil => intro L hL _; simpa using hL
    | cons y ys ih =>
      intro L hL e
      rw [List.foldl_cons] at e
      have h1 := fold_len ys (addS L y)
      have h2 := addS_len L y
      rw [List.length_cons] at e
      have h3 : (addS L y).length = L.length + 1 := by omega
      have hy : y ∉ L := fun q => by
        rw [show addS L y = L from if_pos q] at h3
        omega
      have e2 : addS L y = L ++ [y] := if_neg hy
      have q := ih (addS L y) (nodup_addS hL) (by omega)
      rw [e2] at q
      simpa using q
  exact go xs [] List.nodup_nil (by simpa [ddS] using h)

/-! ### terms -/
/-- bs: what it binds, in c alone; nil: no such part -/
inductive Tm where
  | nil
  | var (x : Str)
  | nd (w : Str) (a b : Tm) (bs : List Str) (c : Tm)
def flt (bs xs : List Str) : List Str := xs.filter fun x => !bs.contains x
theorem mem_flt {bs xs : List Str} {x : Str} : x ∈ flt bs xs ↔ x ∈ xs ∧ x ∉ bs := by
  unfold flt
  simp [List.mem_filter]
def free : Tm → List Str
  | .nil => []
  | .var x => [x]
  | .nd _ a b bs c => ss (free a ++ free b ++ flt bs (free c))
/-- all its names: at variables, at binders -/
def allN : Tm → List Str
  | .nil => []
  | .var x => [x]
  | .nd _ a b bs c => bs ++ (allN a ++ (allN b ++ allN c))
def sz : Tm → Nat
  | .nil => 0
  | .var _ => 1
  | .nd _ a b bs c => 1 + bs.length + sz a + sz b + sz c
def ht : Tm → Nat
  | .nil => 0
  | .var _ => 0
  | .nd _ a b _ c => max (ht a) (max (ht b) (ht c)) + 1
theorem mem_free {w : Str} {a b c : Tm} {bs : List Str} {x : Str} : x ∈ free (.nd w a b bs c) ↔ (x ∈ free a ∨ x ∈ free b) ∨ (x ∈ free c ∧ x ∉ bs) := by
  rw [show free (.nd w a b bs c) = ss (free a ++ free b ++ flt bs (free c)) from rfl, mem_ss, List.mem_append, List.mem_append, mem_flt]
theorem mem_all {w : Str} {a b c : Tm} {bs : List Str} {x : Str} : x ∈ allN (.nd w a b bs c) ↔ x ∈ bs ∨ x ∈ allN a ∨ x ∈ allN b ∨ x ∈ allN c := by
  rw [show allN (.nd w a b bs c) = bs ++ (allN a ++ (allN b ++ allN c)) from rfl, List.mem_append, List.mem_append, List.mem_append]
theorem free_all : ∀ {t : Tm} {x : Str}, x ∈ free t → x ∈ allN t
  | .nil, x, h => h
  | .var y, x, h => h
  | .nd w a b bs c, x, h => by
    rw [mem_all]
    rcases mem_free.mp h with (h | h) | h
    · exact .inr (.inl (free_all h))
    · exact .inr (.inr (.inl (free_all h)))
    · exact .inr (.inr (.inr (free_all h.1)))
theorem flt_len (bs xs : List Str) : (flt bs xs).length ≤ xs.length := List.length_filter_le _ _
theorem free_len : ∀ t : Tm, (free t).length ≤ sz t
  | .nil => Nat.le_refl _
  | .var _ => Nat.le_refl _
  | .nd w a b bs c => by
    unfold free sz
    refine Nat.le_trans (ss_len _) ?_
    rw [List.length_append, List.length_append]
    have h1 := free_len a
    have h2 := free_len b
    have h3 := free_len c
    have h4 := flt_len bs (free c)
    omega
theorem all_len : ∀ t : Tm, (allN t).length ≤ sz t
  | .nil => Nat.le_refl _
  | .var _ => Nat.le_refl _
  | .nd w a b bs c => by
    unfold allN sz
    rw [List.length_append, List.length_append, List.length_append]
    have h1 := all_len a
    have h2 := all_len b
    have h3 := all_len c
    omega

/-! ### nameless trees -/
inductive Lf where
  | fv (x : Str) | bv (k : Nat)
  deriving DecidableEq
inductive Tr where
  | nil
  | lf (a : Lf)
  | nd (w : Str) (a b : Tr) (k : Nat) (c : Tr)
/-- what names stand for, by the depth at which they are met -/
abbrev Env := Str → Nat → Tr
/-- the names bs are bound from the level l on -/
def bindE (β : Nat → Nat → Nat) : List Str → Nat → Env → Env
  | [], _, E => E
  | b :: bs, l, E => bindE β bs (l + 1) fun x d => if x = b then .lf (.bv (β l d)) else E x d
def den (β : Nat → Nat → Nat) : Tm → Env → Nat → Tr
  | .nil, _, _ => .nil
  | .var x, E, d => E x d
  | .nd w a b bs c, E, d => .nd w (den β a E d) (den β b E d) bs.length (den β c (bindE β bs d E) (d + bs.length))
section
variable {β : Nat → Nat → Nat}
theorem bindE_out : ∀ {bs : List Str} {l : Nat} {E : Env} {x : Str}, x ∉ bs → bindE β bs l E x = E x
  | [], _, _, _, _ => rfl
  | b :: bs, l, E, x, h => by
    rw [List.mem_cons, not_or] at h
    unfold bindE
    rw [bindE_out h.2]
    funext d
    rw [if_neg h.1]
theorem bindE_in : ∀ {bs : List Str} {l : Nat} {E F : Env} {x : Str}, x ∈ bs → bindE β bs l E x = bindE β bs l F x
  | b :: bs, l, E, F, x, h => by
    unfold bindE
    by_cases hb : x ∈ bs
    · exact bindE_in hb
    · have e : x = b := by
        rcases List.mem_cons.mp h with e | e
        · exact e
        · exact absurd e hb
      rw [bindE_out hb, bindE_out hb]
      funext d
      rw [if_pos e, if_pos e]
theorem bindE_agree {bs : List Str} {l : Nat} {E F : Env} {x : Str} (h : x ∉ bs → E x = F x) : bindE β bs l E x = bindE β bs l F x := by
  by_cases hb : x ∈ bs
  · exact bindE_in hb
  · rw [bindE_out hb, bindE_out hb, h hb]
/-- names changed by f, where y and f y = z are met at the same places -/
theorem bindE_map {f : Str → Str} {y z : Str} : ∀ {bs : List Str} {l : Nat} {E F : Env}, (∀ b ∈ bs, z = f b ↔ y = b) → (y ∉ bs → E z = F y) → bindE β (bs.map f) l E z = bindE β bs l F y
  | [], _, _, _, _, h => h (by simp)
  | b :: bs, l, E, F, hf, h => by
    rw [List.map_cons]
    unfold bindE
    refine bindE_map (fun b' hb' => hf b' (List.mem_cons_of_mem _ hb')) fun hy => ?_
    funext d
    by_cases e : y = b
    · rw [if_pos e, if_pos ((hf b List.mem_cons_self).mpr e)]
    · rw [if_neg e, if_neg fun q => e ((hf b List.mem_cons_self).mp q), h (by rw [List.mem_cons, not_or]; exact ⟨e, hy⟩)]
/-- only the free names count -/
theorem den_agree : ∀ {t : Tm} {E F : Env} {d : Nat}, (∀ x ∈ free t, E x = F x) → den β t E d = den β t F d
  | .nil, E, F, d, h => rfl
  | .var x, E, F, d, h => by
    unfold den
    rw [h x (by unfold free; exact List.mem_singleton.mpr rfl)]
  | .nd w a b bs c, E, F, d, h => by
    unfold den
    rw [den_agree (t := c) fun x hx => bindE_agree fun hb => h x (mem_free.mpr (.inr ⟨hx, hb⟩)),
      den_agree (t := a) fun x hx => h x (mem_free.mpr (.inl (.inl hx))),
      den_agree (t := b) fun x hx => h x (mem_free.mpr (.inl (.inr hx)))]
end

/-! ### putting in -/
def rb (a new b : Str) : Str := if b = a then new else b
section
variable (fr : List Str → Str)
/-- the names bs of t made apart from taken: k turns at most -/
def apt (rp : Tm → Str → Tm → Tm) (w : Str) (a b : Tm) (tk : List Str) : Nat → List Str → Tm → List Str × Tm
  | 0, bs, c => (bs, c)
  | k + 1, bs, c => match bs.find? fun y => decide (y ∈ tk) with
    | none => (bs, c)
    | some y => apt rp w a b tk k (bs.map (rb y (fr (tk ++ ss (allN (.nd w a b bs c)) ++ bs)))) (rp c y (.var (fr (tk ++ ss (allN (.nd w a b bs c)) ++ bs))))
def rpl : Nat → Tm → Str → Tm → Tm
  | _, .nil, _, _ => .nil
  | _, .var y, x, o => if y = x then o else .var y
  | 0, .nd w a b bs c, _, _ => .nd w a b bs c
  | n + 1, .nd w a b bs c, x, o => if x ∈ free (.nd w a b bs c) then
      let r := apt fr (rpl n) w a b (free o) bs.length bs c
      .nd w (rpl n a x o) (rpl n b x o) r.1 (if x ∈ r.1 then r.2 else rpl n r.2 x o)
    else .nd w a b bs c
variable {fr}
theorem apt_keeps {rp : Tm → Str → Tm → Tm} {P : Tm → Prop} (hrp : ∀ t x y, P t → P (rp t x (.var y))) {w : Str} {a b : Tm} {tk : List Str} : ∀ {k : Nat} {bs : List Str} {c : Tm}, P c → P (apt fr rp w a b tk k bs c).2 ∧ (apt fr rp w a b tk k bs c).1.length = bs.length
  | 0, _, _, h => ⟨h, rfl⟩
  | k + 1, bs, c, h => by
    unfold apt
    split
    · exact ⟨h, rfl⟩
    · exact ⟨(apt_keeps hrp (hrp c _ _ h)).1, (apt_keeps hrp (hrp c _ _ h)).2.trans (by rw [List.length_map])⟩
theorem ht_rpl : ∀ (n : Nat) (t : Tm) (x y : Str), ht (rpl fr n t x (.var y)) = ht t
  | 0, .nil, _, _ => rfl
  | n + 1, .nil, _, _ => rfl
  | 0, .var z, x, y => by
    unfold rpl
    split <;> rfl
  | n + 1, .var z, x, y => by
    unfold rpl
    split <;> rfl
  | 0, .nd .., _, _ => rfl
  | n + 1, .nd w a b bs c, x, y => by
    unfold rpl
    split
    · have q := (apt_keeps (fr := fr) (rp := rpl fr n) (P := fun t => ht t = ht c) (fun t x y h => (ht_rpl n t x y).trans h) (w := w) (a := a) (b := b) (tk := free (.var y)) (k := bs.length) (bs := bs) (c := c) rfl).1
      simp only [ht]
      rw [ht_rpl n a x y, ht_rpl n b x y]
      split
      · rw [q]
      · rw [ht_rpl n _ x y, q]
    · rfl
theorem sz_rpl_var : ∀ (n : Nat) (t : Tm) (x y : Str), sz (rpl fr n t x (.var y)) = sz t
  | 0, .nil, _, _ => rfl
  | n + 1, .nil, _, _ => rfl
  | 0, .var z, x, y => by
    unfold rpl
    split <;> rfl
  | n + 1, .var z, x, y => by
    unfold rpl
    split <;> rfl
  | 0, .nd .., _, _ => rfl
  | n + 1, .nd w a b bs c, x, y => by
    unfold rpl
    split
    · have q := apt_keeps (fr := fr) (rp := rpl fr n) (P := fun t => sz t = sz c) (fun t x y h => (sz_rpl_var n t x y).trans h) (w := w) (a := a) (b := b) (tk := free (.var y)) (k := bs.length) (bs := bs) (c := c) rfl
      simp only [sz]
      rw [sz_rpl_var n a x y, sz_rpl_var n b x y, q.2]
      split
      · rw [q.1]
      · rw [sz_rpl_var n _ x y, q.1]
    · rfl
theorem sz_rpl {o : Tm} (ho : 1 ≤ sz o) : ∀ (n : Nat) (t : Tm) (x : Str), sz (rpl fr n t x o) ≤ sz t * sz o
  | 0, .nil, _ => Nat.zero_le _
  | 0, .var z, x => by
    unfold rpl
    split
    · simp [sz]
    · simpa [sz] using ho
  | 0, .nd .., _ => Nat.le_mul_of_pos_right _ ho
  | n + 1, .nil, _ => Nat.zero_le _
  | n + 1, .var z, x => by
    unfold rpl
    split
    · simp [sz]
    · simpa [sz] using ho
  | n + 1, .nd w a b bs c, x => by
    unfold rpl
    split
    · have q := apt_keeps (fr := fr) (rp := rpl fr n) (P := fun t => sz t = sz c) (fun t x y h => (sz_rpl_var n t x y).trans h) (w := w) (a := a) (b := b) (tk := free o) (k := bs.length) (bs := bs) (c := c) rfl
      have ha := sz_rpl ho n a x
      have hb := sz_rpl ho n b x
      simp only [sz]
      rw [q.2]
      have e : (1 + bs.length + sz a + sz b + sz c) * sz o = (1 + bs.length) * sz o + sz a * sz o + sz b * sz o + sz c * sz o := by
        simp only [Nat.add_mul]
      have h1 : 1 + bs.length ≤ (1 + bs.length) * sz o := Nat.le_mul_of_pos_right _ ho
      rw [e]
      have hc : sz (if x ∈ (apt fr (rpl fr n) w a b (free o) bs.length bs c).1 then (apt fr (rpl fr n) w a b (free o) bs.length bs c).2 else rpl fr n (apt fr (rpl fr n) w a b (free o) bs.length bs c).2 x o) ≤ sz c * sz o := by
        split
        · rw [q.1]
          exact Nat.le_mul_of_pos_right _ ho
        · have := sz_rpl ho n (apt fr (rpl fr n) w a b (free o) bs.length bs c).2 x
          rw [q.1] at this
          exact this
      omega
    · exact Nat.le_mul_of_pos_right _ ho
def upd (E : Env) (x : Str) (v : Nat → Tr) : Env := fun y => if y = x then v else E y
variable {β : Nat → Nat → Nat}
/-- what putting in means, up to the height n -/
def PutOk (fr : List Str → Str) (β : Nat → Nat → Nat) (n : Nat) : Prop := ∀ (t : Tm), ht t ≤ n → ∀ (x : Str) (o : Tm) (E : Env) (d : Nat), den β (rpl fr n t x o) E d = den β t (upd E x (den β o E)) d
theorem apt_den (hfr : ∀ L, fr L ∉ L) {n : Nat} (ih : PutOk fr β n) {w : Str} {a b : Tm} {tk : List Str} : ∀ {k : Nat} {bs : List Str} {c : Tm}, ht c ≤ n → ∀ (E : Env) (d d' : Nat),
    den β (apt fr (rpl fr n) w a b tk k bs c).2 (bindE β (apt fr (rpl fr n) w a b tk k bs c).1 d E) d' = den β c (bindE β bs d E) d'
  | 0, _, _, _, _, _, _ => rfl
  | k + 1, bs, c, hc, E, d, d' => by
    unfold apt
    split
    · rfl
    · rename_i y hy
      have hyb : y ∈ bs := List.mem_of_find?_eq_some hy
      have hnew := hfr (tk ++ ss (allN (.nd w a b bs c)) ++ bs)
      rw [apt_den hfr ih (by rw [ht_rpl]; exact hc), ih c hc]
      rw [List.mem_append, List.mem_append, not_or, not_or, mem_ss, mem_all, not_or, not_or, not_or] at hnew
      generalize fr (tk ++ ss (allN (.nd w a b bs c)) ++ bs) = new at hnew ⊢
      obtain ⟨⟨h1, h2, h3, h4, h5⟩, h6⟩ := hnew
      refine den_agree fun z hz => ?_
      have hzn : z ≠ new := fun q => h5 (q ▸ free_all hz)
      unfold upd
      by_cases e : z = y
      · rw [if_pos e]
        show bindE β (bs.map (rb y new)) d E new = _
        refine bindE_map (fun b' hb' => ?_) fun q => absurd (e ▸ hyb) q
        unfold rb
        by_cases eb : b' = y
        · rw [if_pos eb]
          exact ⟨fun _ => e.trans eb.symm, fun _ => rfl⟩
        · rw [if_neg eb]
          exact ⟨fun q => absurd (q.symm ▸ hb' : new ∈ bs) h6, fun q => absurd (q.symm.trans e) eb⟩
      · rw [if_neg e]
        refine bindE_map (fun b' hb' => ?_) fun _ => rfl
        unfold rb
        by_cases eb : b' = y
        · rw [if_pos eb]
          exact ⟨fun q => absurd q hzn, fun q => absurd (q.trans eb) e⟩
        · rw [if_neg eb]
/-- how many of bs are taken -/
def tkn (tk bs : List Str) : Nat := (bs.filter fun y => decide (y ∈ tk)).length
theorem tkn_map {tk : List Str} {y new : Str} (hn : new ∉ tk) : ∀ {bs : List Str}, (tkn tk (bs.map (rb y new)) ≤ tkn tk bs) ∧ (y ∈ bs → y ∈ tk → tkn tk (bs.map (rb y new)) < tkn tk bs)
  | [] => ⟨Nat.le_refl _, fun h => by cases h⟩
  | b :: bs => by
    have ih := tkn_map (tk := tk) (y := y) hn (bs := bs)
    unfold tkn at ih ⊢
    rw [List.map_cons, List.filter_cons, List.filter_cons]
    unfold rb
    by_cases e : b = y
    · rw [if_pos e]
      simp only [hn, decide_false, Bool.false_eq_true, if_false]
      refine ⟨?_, fun _ hy => ?_⟩
      · split
        · rw [List.length_cons]
          exact Nat.le_succ_of_le ih.1
        · exact ih.1
      · rw [if_pos (by rw [e]; exact decide_eq_true hy), List.length_cons]
        exact Nat.lt_succ_of_le ih.1
    · rw [if_neg e]
      have hyb : y ∈ b :: bs → y ∈ bs := fun q => (List.mem_cons.mp q).elim (fun q => absurd q.symm e) id
      split
      · rw [List.length_cons, List.length_cons]
        exact ⟨Nat.succ_le_succ ih.1, fun h1 h2 => Nat.succ_lt_succ (ih.2 (hyb h1) h2)⟩
      · exact ⟨ih.1, fun h1 h2 => ih.2 (hyb h1) h2⟩
theorem apt_apart (hfr : ∀ L, fr L ∉ L) {rp : Tm → Str → Tm → Tm} {w : Str} {a b : Tm} {tk : List Str} : ∀ {k : Nat} {bs : List Str} {c : Tm}, tkn tk bs ≤ k → ∀ y ∈ (apt fr rp w a b tk k bs c).1, y ∉ tk
  | 0, bs, c, h, y, hy => fun q => by
    unfold tkn at h
    have : y ∈ bs.filter fun y => decide (y ∈ tk) := List.mem_filter.mpr ⟨hy, decide_eq_true q⟩
    rw [List.length_eq_zero_iff.mp (Nat.le_zero.mp h)] at this
    cases this
  | k + 1, bs, c, h, y, hy => by
    unfold apt at hy
    split at hy
    · rename_i hn
      have := List.find?_eq_none.mp hn y hy
      simpa using this
    · rename_i z hz
      have hzb : z ∈ bs := List.mem_of_find?_eq_some hz
      have hzt : z ∈ tk := by simpa using List.find?_some hz
      have hnew := hfr (tk ++ ss (allN (.nd w a b bs c)) ++ bs)
      rw [List.mem_append, List.mem_append, not_or, not_or] at hnew
      exact apt_apart hfr (by have := (tkn_map (y := z) hnew.1.1 (bs := bs)).2 hzb hzt; omega) y hy
theorem put_ok (hfr : ∀ L, fr L ∉ L) : ∀ n, PutOk fr β n
  | 0, .nil, h, _, _, _, _ => rfl
  | 0, .var y, h, x, o, E, d => by
    unfold rpl upd
    by_cases e : y = x
    · rw [if_pos e]
      simp only [den]
      rw [if_pos e]
    · rw [if_neg e]
      simp only [den]
      rw [if_neg e]
  | 0, .nd .., h, _, _, _, _ => absurd h (by unfold ht; omega)
  | n + 1, .nil, h, _, _, _, _ => rfl
  | n + 1, .var y, h, x, o, E, d => by
    unfold rpl upd
    by_cases e : y = x
    · rw [if_pos e]
      simp only [den]
      rw [if_pos e]
    · rw [if_neg e]
      simp only [den]
      rw [if_neg e]
  | n + 1, .nd w a b bs c, h, x, o, E, d => by
    have ih := put_ok hfr n
    unfold ht at h
    have ha : ht a ≤ n := by omega
    have hb : ht b ≤ n := by omega
    have hc : ht c ≤ n := by omega
    unfold rpl
    by_cases hx : x ∈ free (.nd w a b bs c)
    · rw [if_pos hx]
      have hap := apt_apart hfr (rp := rpl fr n) (w := w) (a := a) (b := b) (tk := free o) (k := bs.length) (bs := bs) (c := c) (List.length_filter_le _ _)
      have hd := apt_den (β := β) hfr ih (w := w) (a := a) (b := b) (tk := free o) (k := bs.length) (bs := bs) hc
      have hk := apt_keeps (fr := fr) (rp := rpl fr n) (P := fun t => ht t = ht c) (fun t x y h => (ht_rpl n t x y).trans h) (w := w) (a := a) (b := b) (tk := free o) (k := bs.length) (bs := bs) (c := c) rfl
      generalize apt fr (rpl fr n) w a b (free o) bs.length bs c = r at hap hd hk ⊢
      obtain ⟨bs', c'⟩ := r
      dsimp only at hap hd hk ⊢
      simp only [den]
      rw [ih a ha, ih b hb, hk.2]
      congr 1
      rw [← hd]
      split
      · rename_i hin
        refine den_agree fun z hz => bindE_agree fun hz' => ?_
        unfold upd
        rw [if_neg fun (q : z = x) => hz' (q ▸ hin)]
      · rename_i hin
        rw [ih c' (by rw [hk.1]; exact hc)]
        refine den_agree fun z hz => ?_
        have ho : den β o (bindE β bs' d E) = den β o E := by
          funext d'
          exact den_agree fun y hy => bindE_out fun q => hap y q hy
        rw [ho]
        unfold upd
        by_cases e : z = x
        · rw [if_pos e, e, bindE_out hin, if_pos rfl]
        · rw [if_neg e]
          refine bindE_agree fun _ => ?_
          rw [if_neg e]
    · rw [if_neg hx]
      refine den_agree fun z hz => ?_
      unfold upd
      rw [if_neg fun (q : z = x) => hx (q ▸ hz)]
end
end K05

set_option maxHeartbeats 4000000
/-! K05n: bare, marked and tidied terms: plain -/
namespace K05
open PySem Fp
def βi (l d : Nat) : Nat := d - 1 - l
def βm (l _ : Nat) : Nat := l
def E0 : Env := fun x _ => .lf (.fv x)
def bare (t : Tm) : Tr := den βi t E0 0
def mark (t : Tm) : Tr := den βm t E0 0

/-! ### deeper by s -/
theorem bindE_shift : ∀ {bs : List Str} {l s : Nat} {E F : Env} {x : Str}, (∀ d, E x d = F x (d + s)) → ∀ d, bindE βi bs l E x d = bindE βi bs (l + s) F x (d + s)
  | [], _, _, _, _, _, h, d => h d
  | b :: bs, l, s, E, F, x, h, d => by
    unfold bindE
    rw [show l + s + 1 = l + 1 + s from by omega]
    refine bindE_shift (fun d => ?_) d
    split
    · have : βi l d = βi (l + s) (d + s) := by unfold βi; omega
      rw [this]
    · exact h d
theorem den_shift : ∀ {t : Tm} {E F : Env} {d s : Nat}, (∀ x d, E x d = F x (d + s)) → den βi t E d = den βi t F (d + s)
  | .nil, _, _, _, _, _ => rfl
  | .var x, _, _, _, _, h => h x _
  | .nd w a b bs c, E, F, d, s, h => by
    simp only [den]
    rw [den_shift (t := a) h, den_shift (t := b) h, den_shift (t := c) fun x d' => bindE_shift (h x) d', show d + bs.length + s = d + s + bs.length from by omega]

/-! ### putting in, of trees -/
def putT (x : Str) (o : Tr) : Tr → Tr
  | .nil => .nil
  | .lf (.fv y) => if y = x then o else .lf (.fv y)
  | .lf (.bv k) => .lf (.bv k)
  | .nd w a b k c => .nd w (putT x o a) (putT x o b) k (putT x o c)
section
variable {β : Nat → Nat → Nat}
theorem bindE_put {x : Str} {o : Tr} : ∀ {bs : List Str} {l : Nat} {E : Env} {y : Str} {d : Nat}, bindE β bs l (fun y d => putT x o (E y d)) y d = putT x o (bindE β bs l E y d)
  | [], _, _, _, _ => rfl
  | b :: bs, l, E, y, d => by
    unfold bindE
    rw [← bindE_put]
    congr 1
    funext z d
    split <;> rfl
theorem den_put {x : Str} {o : Tr} : ∀ {t : Tm} {E : Env} {d : Nat}, den β t (fun y d => putT x o (E y d)) d = putT x o (den β t E d)
  | .nil, _, _ => rfl
  | .var _, _, _ => rfl
  | .nd w a b bs c, E, d => by
    simp only [den, putT]
    rw [den_put, den_put, ← den_put (t := c)]
    congr 2
    funext y d
    exact bindE_put
end
theorem bare_rpl {fr : List Str → Str} (hfr : ∀ L, fr L ∉ L) {n : Nat} {t o : Tm} {x : Str} (h : ht t ≤ n) : bare (rpl fr n t x o) = putT x (bare o) (bare t) := by
  unfold bare
  rw [put_ok hfr n t h, ← den_put]
  congr 1
  funext y d
  unfold upd E0
  by_cases e : y = x
  · rw [if_pos e]
    simp only [putT, if_pos e]
    have := den_shift (t := o) (E := E0) (F := E0) (d := 0) (s := d) fun _ _ => rfl
    rw [Nat.zero_add] at this
    exact this.symm
  · rw [if_neg e]
    simp only [putT, if_neg e]

/-! ### the free names are seen in the tree -/
def fvs : Tr → List Str
  | .nil => []
  | .lf (.fv x) => [x]
  | .lf (.bv _) => []
  | .nd _ a b _ c => fvs a ++ (fvs b ++ fvs c)
section
variable {β : Nat → Nat → Nat}
theorem bindE_fvs {y : Str} : ∀ {bs : List Str} {l : Nat} {E : Env} {G : Str → Prop}, (∀ x d, y ∈ fvs (E x d) ↔ y = x ∧ G x) → ∀ x d, y ∈ fvs (bindE β bs l E x d) ↔ y = x ∧ (G x ∧ x ∉ bs)
  | [], l, E, G, h, x, d => by simpa [bindE] using h x d
  | b :: bs, l, E, G, h, x, d => by
    unfold bindE
    rw [bindE_fvs (G := fun x => G x ∧ x ≠ b) fun x d => ?_]
    · rw [List.mem_cons, not_or, and_assoc]
    · split
      · rename_i e
        simp [fvs, e]
      · rename_i e
        rw [h]
        simp [e]
theorem den_fvs {y : Str} : ∀ {t : Tm} {E : Env} {d : Nat} {G : Str → Prop}, (∀ x d, y ∈ fvs (E x d) ↔ y = x ∧ G x) → (y ∈ fvs (den β t E d) ↔ y ∈ free t ∧ G y)
  | .nil, _, _, _, _ => by simp [den, fvs, free]
  | .var x, E, d, G, h => by
    simp only [den, free]
    rw [h, List.mem_singleton]
    constructor
    · rintro ⟨rfl, q⟩; exact ⟨rfl, q⟩
    · rintro ⟨rfl, q⟩; exact ⟨rfl, q⟩
  | .nd w a b bs c, E, d, G, h => by
    simp only [den, fvs]
    rw [List.mem_append, List.mem_append, den_fvs (t := a) h, den_fvs (t := b) h, den_fvs (t := c) (bindE_fvs h), mem_free]
    constructor
    · rintro (⟨q, g⟩ | ⟨q, g⟩ | ⟨q, g, r⟩)
      · exact ⟨.inl (.inl q), g⟩
      · exact ⟨.inl (.inr q), g⟩
      · exact ⟨.inr ⟨q, r⟩, g⟩
    · rintro ⟨(q | q) | q, g⟩
      · exact .inl ⟨q, g⟩
      · exact .inr (.inl ⟨q, g⟩)
      · exact .inr (.inr ⟨q.1, g, q.2⟩)
theorem fvs_E0 {y : Str} (x : Str) (d : Nat) : y ∈ fvs (E0 x d) ↔ y = x ∧ True := by
  simp [E0, fvs]
theorem fvs_den0 {t : Tm} {y : Str} : y ∈ fvs (den β t E0 0) ↔ y ∈ free t := by
  rw [den_fvs (G := fun _ => True) fvs_E0]
  simp
end
theorem fvs_put {x : Str} {o : Tr} {y : Str} : ∀ {t : Tr}, y ∈ fvs (putT x o t) ↔ (y ∈ fvs t ∧ y ≠ x) ∨ (x ∈ fvs t ∧ y ∈ fvs o)
  | .nil => by simp [putT, fvs]
  | .lf (.bv k) => by simp [putT, fvs]
  | .lf (.fv z) => by
    simp only [putT]
    split
    · rename_i e
      subst e
      rw [fvs, List.mem_singleton, List.mem_singleton]
      constructor
      · intro h; exact .inr ⟨rfl, h⟩
      · intro h
        rcases h with h | h
        · exact absurd h.1 h.2
        · exact h.2
    · rename_i e
      simp only [fvs, List.mem_singleton]
      constructor
      · rintro rfl; exact .inl ⟨rfl, e⟩
      · rintro (h | h)
        · exact h.1
        · exact absurd h.1.symm e
  | .nd w a b k c => by
    simp only [putT, fvs, List.mem_append]
    rw [fvs_put (t := a), fvs_put (t := b), fvs_put (t := c)]
    constructor
    · rintro ((h | h) | (h | h) | (h | h))
      · exact .inl ⟨.inl h.1, h.2⟩
      · exact .inr ⟨.inl h.1, h.2⟩
      · exact .inl ⟨.inr (.inl h.1), h.2⟩
      · exact .inr ⟨.inr (.inl h.1), h.2⟩
      · exact .inl ⟨.inr (.inr h.1), h.2⟩
      · exact .inr ⟨.inr (.inr h.1), h.2⟩
    · rintro (⟨h | h | h, q⟩ | ⟨h | h | h, q⟩)
      · exact .inl (.inl ⟨h, q⟩)
      · exact .inr (.inl (.inl ⟨h, q⟩))
      · exact .inr (.inr (.inl ⟨h, q⟩))
      · exact .inl (.inr ⟨h, q⟩)
      · exact .inr (.inl (.inr ⟨h, q⟩))
      · exact .inr (.inr (.inr ⟨h, q⟩))
theorem ss_one (x : Str) : ss [x] = [x] := by
  have := (sortS_perm (ddS [x]))
  rw [show ddS [x] = [x] from rfl] at this
  exact List.perm_singleton.mp this
theorem free_ss : ∀ t : Tm, free t = ss (free t)
  | .nil => (List.Perm.eq_nil (sortS_perm (ddS []))).symm
  | .var x => (ss_one x).symm
  | .nd w a b bs c => by
    show ss _ = ss (ss _)
    exact ss_ext fun x => by rw [mem_ss]
theorem free_rpl {fr : List Str → Str} (hfr : ∀ L, fr L ∉ L) {n : Nat} {t o : Tm} {x : Str} (h : ht t ≤ n) :
    free (rpl fr n t x o) = ss ((free t).filter (fun y => !decide (y = x)) ++ if x ∈ free t then free o else []) := by
  rw [free_ss]
  refine ss_ext fun y => ?_
  rw [← fvs_den0 (β := βi) (t := rpl fr n t x o), show den βi (rpl fr n t x o) E0 0 = bare (rpl fr n t x o) from rfl, bare_rpl hfr h, fvs_put]
  unfold bare
  rw [fvs_den0, fvs_den0, fvs_den0, List.mem_append, List.mem_filter]
  split
  · rename_i hx
    simp [hx]
  · rename_i hx
    simp [hx]
theorem free_of_tree {t o : Tm} {β : Nat → Nat → Nat} (h : den β t E0 0 = den β o E0 0) : free t = free o := by
  rw [free_ss t, free_ss o]
  exact ss_ext fun y => by rw [← fvs_den0 (β := β), h, fvs_den0]

/-! ### indices and levels -/
def conv : Tr → Nat → Tr
  | .nil, _ => .nil
  | .lf (.fv x), _ => .lf (.fv x)
  | .lf (.bv k), d => .lf (.bv (d - 1 - k))
  | .nd w a b k c, d => .nd w (conv a d) (conv b d) k (conv c (d + k))
section
variable {β β' : Nat → Nat → Nat}
theorem bindE_conv (hβ : ∀ l d, l < d → d - 1 - β l d = β' l d) {x : Str} : ∀ {bs : List Str} {l : Nat} {E F : Env}, (∀ d, l ≤ d → conv (E x d) d = F x d) → ∀ d, l + bs.length ≤ d → conv (bindE β bs l E x d) d = bindE β' bs l F x d
  | [], _, _, _, h, d, hd => h d hd
  | b :: bs, l, E, F, h, d, hd => by
    unfold bindE
    rw [List.length_cons] at hd
    refine bindE_conv hβ (fun d hd => ?_) d (by omega)
    split
    · rw [conv, hβ l d (by omega)]
    · exact h d (by omega)
theorem den_conv (hβ : ∀ l d, l < d → d - 1 - β l d = β' l d) : ∀ {t : Tm} {E F : Env} {d : Nat}, (∀ x d', d ≤ d' → conv (E x d') d' = F x d') → conv (den β t E d) d = den β' t F d
  | .nil, _, _, _, _ => rfl
  | .var x, _, _, d, h => h x d (Nat.le_refl _)
  | .nd w a b bs c, E, F, d, h => by
    simp only [den, conv]
    rw [den_conv hβ (t := a) h, den_conv hβ (t := b) h, den_conv hβ (t := c) fun x d' hd' => bindE_conv hβ (h x) d' hd']
end
theorem conv_bare (t : Tm) : conv (bare t) 0 = mark t := den_conv (fun l d h => by unfold βi βm; omega) fun _ _ _ => rfl
theorem conv_mark (t : Tm) : conv (mark t) 0 = bare t := den_conv (fun l d h => by unfold βi βm; omega) fun _ _ _ => rfl
theorem mark_iff {t o : Tm} : mark t = mark o ↔ bare t = bare o :=
  ⟨fun h => by rw [← conv_mark, h, conv_mark], fun h => by rw [← conv_bare, h, conv_bare]⟩

/-! ### names in order -/
/-- all names that are bound, in order -/
def bnd : Tm → List Str
  | .nil => []
  | .var _ => []
  | .nd _ a b bs c => bnd a ++ (bnd b ++ (bs ++ bnd c))
def upds {α : Type} : (Str → Option α) → List Str → List α → Str → Option α
  | σ, b :: bs, n :: ns => upds (fun x => if x = b then some n else σ x) bs ns
  | σ, _, _ => σ
section
variable (nxt : Nat → Str × Nat)
def names : Nat → Nat → List Str × Nat
  | 0, k => ([], k)
  | j + 1, k => ((nxt k).1 :: (names j (nxt k).2).1, (names j (nxt k).2).2)
def ord : Tm → (Str → Option Str) → Nat → Tm × Nat
  | .nil, _, k => (.nil, k)
  | .var x, σ, k => (.var ((σ x).getD x), k)
  | .nd w a b bs c, σ, k =>
    let ra := ord a σ k
    let rb := ord b σ ra.2
    let ns := names nxt bs.length rb.2
    let rc := ord c (upds σ bs ns.1) ns.2
    (.nd w ra.1 rb.1 ns.1 rc.1, rc.2)
def ordT : Tr → List Str → Nat → Tm × Nat
  | .nil, _, k => (.nil, k)
  | .lf (.fv x), _, k => (.var x, k)
  | .lf (.bv l), ρ, k => (.var (ρ[l]?.getD ⟨#[]⟩), k)
  | .nd w a b j c, ρ, k =>
    let ra := ordT a ρ k
    let rb := ordT b ρ ra.2
    let ns := names nxt j rb.2
    let rc := ordT c (ρ ++ ns.1) ns.2
    (.nd w ra.1 rb.1 ns.1 rc.1, rc.2)
variable {nxt}
theorem names_len : ∀ {j k : Nat}, (names nxt j k).1.length = j
  | 0, _ => rfl
  | j + 1, k => by unfold names; rw [List.length_cons, names_len]
/-- what a name stands for: in the tree, in the new term -/
def Rel (E : Env) (σ : Str → Option Str) (ρ : List Str) (x : Str) : Prop :=
  (∃ l y, E x = (fun _ => .lf (.bv l)) ∧ σ x = some y ∧ ρ[l]? = some y) ∨ (E x = (fun _ => .lf (.fv x)) ∧ σ x = none)
theorem Rel.more {E : Env} {σ : Str → Option Str} {ρ : List Str} {x : Str} (h : Rel E σ ρ x) (r : List Str) : Rel E σ (ρ ++ r) x := by
  rcases h with ⟨l, y, h1, h2, h3⟩ | h
  · refine .inl ⟨l, y, h1, h2, ?_⟩
    rw [List.getElem?_append_left (List.getElem?_eq_some_iff.mp h3).1]
    exact h3
  · exact .inr h
theorem bind_rel {x : Str} : ∀ {bs ns : List Str} {l : Nat} {E : Env} {σ : Str → Option Str} {ρ : List Str}, bs.length = ns.length → ρ.length = l → Rel E σ ρ x → Rel (bindE βm bs l E) (upds σ bs ns) (ρ ++ ns) x
  | [], ns, l, E, σ, ρ, _, _, h => by
    unfold bindE upds
    exact h.more ns
  | b :: bs, [], _, _, _, _, e, _, _ => by cases e
  | b :: bs, n :: ns, l, E, σ, ρ, e, hl, h => by
    unfold bindE upds
    rw [show ρ ++ n :: ns = (ρ ++ [n]) ++ ns from by simp]
    refine bind_rel (by simpa using e) (by rw [List.length_append, hl]; rfl) ?_
    by_cases q : x = b
    · refine .inl ⟨l, n, ?_, by simp only [if_pos q], ?_⟩
      · funext d
        show (if x = b then _ else _) = _
        rw [if_pos q]
        rfl
      · rw [← hl]
        simp
    · have h := h.more [n]
      have e1 : (fun d => if x = b then Tr.lf (.bv (βm l d)) else E x d) = E x := by
        funext d
        rw [if_neg q]
      have e2 : (if x = b then some n else σ x) = σ x := if_neg q
      unfold Rel at h ⊢
      dsimp only
      rw [e1, e2]
      exact h
theorem ord_tree : ∀ {t : Tm} {E : Env} {σ : Str → Option Str} {ρ : List Str} {d k : Nat}, ρ.length = d → (∀ x, Rel E σ ρ x) → ord nxt t σ k = ordT nxt (den βm t E d) ρ k
  | .nil, _, _, _, _, _, _, _ => rfl
  | .var x, E, σ, ρ, d, k, _, h => by
    unfold ord den
    rcases h x with ⟨l, y, h1, h2, h3⟩ | ⟨h1, h2⟩
    · rw [h1, h2]
      unfold ordT
      rw [h3]
      rfl
    · rw [h1, h2]
      rfl
  | .nd w a b bs c, E, σ, ρ, d, k, hd, h => by
    simp only [ord, den, ordT]
    rw [ord_tree (t := a) hd h, ord_tree (t := b) hd h]
    rw [ord_tree (t := c) (ρ := ρ ++ (names nxt bs.length (ordT nxt (den βm b E d) ρ (ordT nxt (den βm a E d) ρ k).2).2).1) (d := d + bs.length) (by rw [List.length_append, names_len, hd]) fun x => bind_rel names_len.symm hd (h x)]
end
/-- what the next names are -/
structure Nx (nxt : Nat → Str × Nat) (nm : Nat → Str) (tk : List Str) : Prop where
  inj : ∀ i j, nm i = nm j → i = j
  get : ∀ k, ∃ i, k ≤ i ∧ nxt k = (nm i, i + 1) ∧ nm i ∉ tk
/-- names of numbers that rise from k on, up to k' -/
def Up (nm : Nat → Str) (tk : List Str) (k k' : Nat) (xs : List Str) : Prop := ∃ is : List Nat, xs = is.map nm ∧ is.Pairwise (· < ·) ∧ k ≤ k' ∧ ∀ i ∈ is, k ≤ i ∧ i < k' ∧ nm i ∉ tk
section
variable {nxt : Nat → Str × Nat} {nm : Nat → Str} {tk : List Str}
theorem Up.nil (k : Nat) : Up nm tk k k [] := ⟨[], rfl, .nil, Nat.le_refl _, fun _ h => by cases h⟩
theorem Up.app {k k1 k2 : Nat} {xs ys : List Str} (h1 : Up nm tk k k1 xs) (h2 : Up nm tk k1 k2 ys) : Up nm tk k k2 (xs ++ ys) := by
  obtain ⟨is, e1, p1, l1, r1⟩ := h1
  obtain ⟨js, e2, p2, l2, r2⟩ := h2
  refine ⟨is ++ js, by rw [e1, e2, List.map_append], ?_, by omega, fun i hi => ?_⟩
  · rw [List.pairwise_append]
    exact ⟨p1, p2, fun a ha b hb => by have := (r1 a ha).2.1; have := (r2 b hb).1; omega⟩
  · rcases List.mem_append.mp hi with h | h
    · have := r1 i h
      exact ⟨this.1, by omega, this.2.2⟩
    · have := r2 i h
      exact ⟨by omega, this.2⟩
theorem Up.nodup (N : Nx nxt nm tk) {k k' : Nat} {xs : List Str} (h : Up nm tk k k' xs) : xs.Nodup := by
  obtain ⟨is, e1, p1, l1, r1⟩ := h
  rw [e1]
  unfold List.Nodup
  rw [List.pairwise_map]
  exact p1.imp fun {a b} h q => by have := N.inj a b q; omega
theorem Up.out {k k' : Nat} {xs : List Str} (h : Up nm tk k k' xs) : ∀ x ∈ xs, x ∉ tk := by
  obtain ⟨is, e1, p1, l1, r1⟩ := h
  intro x hx
  rw [e1] at hx
  obtain ⟨i, hi, rfl⟩ := List.mem_map.mp hx
  exact (r1 i hi).2.2
theorem Up.apart (N : Nx nxt nm tk) {k k1 k2 : Nat} {xs ys : List Str} (h1 : Up nm tk k k1 xs) (h2 : Up nm tk k1 k2 ys) : ∀ x ∈ xs, x ∉ ys := by
  obtain ⟨is, e1, p1, l1, r1⟩ := h1
  obtain ⟨js, e2, p2, l2, r2⟩ := h2
  intro x hx hy
  rw [e1] at hx
  rw [e2] at hy
  obtain ⟨i, hi, rfl⟩ := List.mem_map.mp hx
  obtain ⟨j, hj, e⟩ := List.mem_map.mp hy
  have := N.inj _ _ e
  have := (r1 i hi).2.1
  have := (r2 j hj).1
  omega
theorem Up.le {k k' : Nat} {xs : List Str} (h : Up nm tk k k' xs) : k ≤ k' := by
  obtain ⟨is, e1, p1, l1, r1⟩ := h
  exact l1
theorem Up.weak {k k1 k2 : Nat} {xs : List Str} (h : Up nm tk k k1 xs) (l : k1 ≤ k2) : Up nm tk k k2 xs := by
  have := h.app (k2 := k2) (ys := []) ⟨[], rfl, .nil, l, fun _ h => by cases h⟩
  rwa [List.append_nil] at this
theorem names_up (N : Nx nxt nm tk) : ∀ {j k : Nat}, Up nm tk k (names nxt j k).2 (names nxt j k).1
  | 0, k => Up.nil k
  | j + 1, k => by
    obtain ⟨i, h1, h2, h3⟩ := N.get k
    unfold names
    rw [h2]
    have h := names_up N (j := j) (k := i + 1)
    refine Up.app (k1 := i + 1) (xs := [nm i]) ⟨[i], rfl, by simp, by omega, fun i' hi' => ?_⟩ h
    rw [List.mem_singleton.mp hi']
    exact ⟨h1, by omega, h3⟩
theorem ordT_up (N : Nx nxt nm tk) : ∀ {t : Tr} {ρ : List Str} {k : Nat}, Up nm tk k (ordT nxt t ρ k).2 (bnd (ordT nxt t ρ k).1)
  | .nil, _, k => Up.nil k
  | .lf (.fv x), _, k => Up.nil k
  | .lf (.bv _), _, k => Up.nil k
  | .nd w a b j c, ρ, k => by
    simp only [ordT, bnd]
    exact (ordT_up N).app ((ordT_up N).app ((names_up N).app (ordT_up N)))
/-- all that is bound is bound -/
def sc : Tr → Nat → Prop
  | .nil, _ => True
  | .lf (.fv _), _ => True
  | .lf (.bv l), d => l < d
  | .nd _ a b j c, d => sc a d ∧ sc b d ∧ sc c (d + j)
/-- what the names ρ, and the free ones, stand for -/
theorem bindE_get : ∀ {ns : List Str} {l : Nat} {E : Env}, ns.Nodup → ∀ j y, ns[j]? = some y → bindE βm ns l E y = fun _ => .lf (.bv (l + j))
  | [], _, _, _, j, y, h => by simp at h
  | n :: ns, l, E, hn, 0, y, h => by
    cases h
    unfold bindE
    rw [List.nodup_cons] at hn
    rw [bindE_out hn.1]
    funext d
    rw [if_pos rfl]
    rfl
  | n :: ns, l, E, hn, j + 1, y, h => by
    unfold bindE
    rw [List.nodup_cons] at hn
    rw [bindE_get hn.2 j y (by simpa using h)]
    funext d
    rw [show l + 1 + j = l + (j + 1) from by omega]
theorem ordT_back (N : Nx nxt nm tk) : ∀ {t : Tr} {ρ : List Str} {k : Nat} {E : Env} {d : Nat}, sc t d → ρ.length = d → Up nm tk 0 k ρ → (∀ l y, ρ[l]? = some y → E y = fun _ => .lf (.bv l)) → (∀ y ∈ tk, E y = fun _ => .lf (.fv y)) → (∀ y ∈ fvs t, y ∈ tk) →
    den βm (ordT nxt t ρ k).1 E d = t
  | .nil, _, _, _, _, _, _, _, _, _, _ => rfl
  | .lf (.fv x), ρ, k, E, d, _, _, _, _, h5, h6 => by
    unfold ordT den
    rw [h5 x (h6 x (by unfold fvs; exact List.mem_singleton.mpr rfl))]
  | .lf (.bv l), ρ, k, E, d, h1, h2, _, h4, _, _ => by
    unfold ordT den
    unfold sc at h1
    have hl : l < ρ.length := by omega
    rw [List.getElem?_eq_getElem hl, Option.getD_some, h4 l ρ[l] (List.getElem?_eq_getElem hl)]
  | .nd w a b j c, ρ, k, E, d, h1, h2, h3, h4, h5, h6 => by
    simp only [sc] at h1
    simp only [ordT, den]
    have ua := ordT_up N (t := a) (ρ := ρ) (k := k)
    have ub := ordT_up N (t := b) (ρ := ρ) (k := (ordT nxt a ρ k).2)
    rw [ordT_back N (t := a) h1.1 h2 h3 h4 h5 fun y hy => h6 y (by unfold fvs; exact List.mem_append_left _ hy)]
    rw [ordT_back N (t := b) h1.2.1 h2 (h3.weak ua.le) h4 h5 fun y hy => h6 y (by unfold fvs; exact List.mem_append_right _ (List.mem_append_left _ hy))]
    generalize (ordT nxt b ρ (ordT nxt a ρ k).2).2 = k2 at ub ⊢
    have un := names_up N (j := j) (k := k2)
    have hlen := names_len (nxt := nxt) (j := j) (k := k2)
    have h3' := h3.weak (Nat.le_trans ua.le ub.le)
    generalize names nxt j k2 = r at un hlen ⊢
    obtain ⟨ns, k3⟩ := r
    dsimp only at un hlen ⊢
    rw [hlen]
    congr 1
    refine ordT_back N (t := c) h1.2.2 (by rw [List.length_append, h2, hlen]) (h3'.app un) (fun l y hl => ?_) (fun y hy => ?_) fun y hy => h6 y (by unfold fvs; exact List.mem_append_right _ (List.mem_append_right _ hy))
    · by_cases hlt : l < ρ.length
      · rw [List.getElem?_append_left hlt] at hl
        rw [bindE_out (h3'.apart N un y (List.mem_of_getElem? hl))]
        exact h4 l y hl
      · rw [List.getElem?_append_right (by omega)] at hl
        rw [bindE_get (un.nodup N) _ y hl, show d + (l - ρ.length) = l from by omega]
    · rw [bindE_out fun q => un.out y q hy]
      exact h5 y hy
theorem sc_den : ∀ {t : Tm} {E : Env} {d : Nat}, (∀ x d', d ≤ d' → sc (E x d') d') → sc (den βm t E d) d
  | .nil, _, _, _ => trivial
  | .var x, _, d, h => h x d (Nat.le_refl _)
  | .nd w a b bs c, E, d, h => by
    simp only [den, sc]
    refine ⟨sc_den h, sc_den h, sc_den ?_⟩
    have go : ∀ (bs : List Str) (l : Nat) (E : Env), (∀ x d', l ≤ d' → sc (E x d') d') → ∀ x d', l + bs.length ≤ d' → sc (bindE βm bs l E x d') d' := by
      intro bs
      induction bs with
      | nil => intro l E h x d' hd; exact h x d' hd
      | cons b bs ih =>
        intro l E h x d' hd
        unfold bindE
        rw [List.length_cons] at hd
        refine ih (l + 1) _ (fun x d' hd => ?_) x d' (by omega)
        split
        · show l < d'
          omega
        · exact h x d' (by omega)
    exact go bs d E h
end
/-- tidied, with a way to the next name that the taken names fix -/
def tidyT (nx : List Str → Nat → Str × Nat) (t : Tm) : Tm := (ord (nx (free t)) t (fun _ => none) 0).1
section
variable {nx : List Str → Nat → Str × Nat} {nm : Nat → Str}
theorem tidy_tree (t : Tm) : tidyT nx t = (ordT (nx (free t)) (mark t) [] 0).1 := by
  unfold tidyT mark
  rw [ord_tree (ρ := []) (E := E0) (d := 0) rfl fun x => .inr ⟨rfl, rfl⟩]
theorem mark_tidy (N : ∀ tk, Nx (nx tk) nm tk) (t : Tm) : mark (tidyT nx t) = mark t := by
  rw [tidy_tree]
  exact ordT_back (N (free t)) (t := mark t) (ρ := []) (d := 0) (E := E0) (sc_den fun x d' _ => trivial) rfl (Up.nil 0) (fun l y h => by simp at h) (fun y _ => rfl) fun y hy => fvs_den0.mp hy
theorem bare_tidy (N : ∀ tk, Nx (nx tk) nm tk) (t : Tm) : bare (tidyT nx t) = bare t := mark_iff.mp (mark_tidy N t)
theorem tidy_iff (N : ∀ tk, Nx (nx tk) nm tk) (t o : Tm) : tidyT nx t = tidyT nx o ↔ bare t = bare o := by
  refine ⟨fun h => ?_, fun h => ?_⟩
  · rw [← bare_tidy N t, h, bare_tidy N o]
  · rw [tidy_tree, tidy_tree, mark_iff.mpr h, free_of_tree (β := βi) h]
theorem tidy_tidy (N : ∀ tk, Nx (nx tk) nm tk) (t : Tm) : tidyT nx (tidyT nx t) = tidyT nx t := (tidy_iff N _ _).mpr (bare_tidy N t)
theorem tidy_nodup (N : ∀ tk, Nx (nx tk) nm tk) (t : Tm) : (bnd (tidyT nx t)).Nodup := by
  rw [tidy_tree]
  exact (ordT_up (N (free t))).nodup (N (free t))
theorem tidy_apart (N : ∀ tk, Nx (nx tk) nm tk) (t : Tm) : ∀ x ∈ free (tidyT nx t), x ∉ bnd (tidyT nx t) := by
  intro x hx hb
  rw [free_of_tree (β := βi) (bare_tidy N t)] at hx
  rw [tidy_tree] at hb
  exact (ordT_up (N (free t))).out x hb hx
end
end K05

set_option maxHeartbeats 4000000
/-! K05o: names that are not taken -/
namespace K05
open PySem Fp
def chr (k : Nat) : Str := ⟨#[97 + k % 26]⟩
def wd (k : Nat) : Str := if k < 26 then chr k else wd (k / 26 - 1) ++ chr k
termination_by k
decreasing_by omega
theorem wd_cps (k : Nat) : (wd k).cps.toList = (if k < 26 then [] else (wd (k / 26 - 1)).cps.toList) ++ [97 + k % 26] := by
  rw [wd]
  split
  · rfl
  · show ((wd (k / 26 - 1)).cps ++ (chr k).cps).toList = _
    rw [Array.toList_append]
    rfl
theorem wd_ne (k : Nat) : (wd k).cps.toList ≠ [] := by
  rw [wd_cps]
  exact List.append_ne_nil_of_right_ne_nil _ (by simp)
theorem wd_inj : ∀ (i j : Nat), (wd i).cps.toList = (wd j).cps.toList → i = j := by
  intro i
  induction i using Nat.strongRecOn with
  | ind i ih =>
    intro j h
    rw [wd_cps i, wd_cps j] at h
    have h2 := List.append_inj' h rfl
    have hm : i % 26 = j % 26 := by
      have := h2.2
      simp at this
      omega
    have hp := h2.1
    by_cases hi : i < 26
    · by_cases hj : j < 26
      · omega
      · rw [if_pos hi, if_neg hj] at hp
        exact absurd hp.symm (wd_ne _)
    · by_cases hj : j < 26
      · rw [if_neg hi, if_pos hj] at hp
        exact absurd hp (wd_ne _)
      · rw [if_neg hi, if_neg hj] at hp
        have := ih (i / 26 - 1) (by omega) _ hp
        omega
def nmP (p : Str) (k : Nat) : Str := p ++ wd k
theorem nmP_inj (p : Str) (i j : Nat) (h : nmP p i = nmP p j) : i = j := by
  have h1 : (p.cps ++ (wd i).cps).toList = (p.cps ++ (wd j).cps).toList := congrArg (fun s : Str => s.cps.toList) h
  rw [Array.toList_append, Array.toList_append] at h1
  exact wd_inj i j (List.append_cancel_left h1)
/-- the first number from k on whose name is not taken (n: at most so many turns) -/
def fst (p : Str) (tk : List Str) : Nat → Nat → Nat
  | 0, k => k
  | n + 1, k => if nmP p k ∈ tk then fst p tk n (k + 1) else k
theorem fst_le {p : Str} {tk : List Str} : ∀ {n k : Nat}, k ≤ fst p tk n k ∧ fst p tk n k ≤ k + n
  | 0, k => ⟨Nat.le_refl _, Nat.le_refl _⟩
  | n + 1, k => by
    unfold fst
    split
    · have := fst_le (p := p) (tk := tk) (n := n) (k := k + 1)
      omega
    · omega
theorem sub_len : ∀ {xs ys : List Str}, xs.Nodup → (∀ x ∈ xs, x ∈ ys) → xs.length ≤ ys.length
  | [], _, _, _ => Nat.zero_le _
  | x :: xs, ys, hn, h => by
    rw [List.nodup_cons] at hn
    have hx := h x List.mem_cons_self
    have := sub_len (xs := xs) (ys := ys.erase x) hn.2 fun y hy => (List.mem_erase_of_ne fun (e : y = x) => hn.1 (e ▸ hy)).mpr (h y (List.mem_cons_of_mem _ hy))
    rw [List.length_erase_of_mem hx] at this
    have := List.length_pos_of_mem hx
    rw [List.length_cons]
    omega
theorem fst_out (p : Str) (tk : List Str) (k : Nat) : nmP p (fst p tk tk.length k) ∉ tk := by
  -- the names from k on that are taken: at most n
  have go : ∀ (n k : Nat), (∀ is : List Nat, is.Nodup → (∀ i ∈ is, k ≤ i ∧ nmP p i ∈ tk) → is.length ≤ n) → nmP p (fst p tk n k) ∉ tk := by
    intro n
    induction n with
    | zero =>
      intro k h hk
      have := h [k] (by simp) (fun i hi => by rw [List.mem_singleton.mp hi]; exact ⟨Nat.le_refl _, hk⟩)
      simp at this
    | succ n ih =>
      intro k h
      unfold fst
      split
      · rename_i hk
        refine ih (k + 1) fun is hn his => ?_
        have := h (k :: is) (by rw [List.nodup_cons]; exact ⟨fun q => by have := (his k q).1; omega, hn⟩) fun i hi => by
          rcases List.mem_cons.mp hi with q | q
          · rw [q]; exact ⟨Nat.le_refl _, hk⟩
          · exact ⟨by have := (his i q).1; omega, (his i q).2⟩
        simpa using this
      · assumption
  refine go tk.length k fun is hn his => ?_
  have := sub_len (xs := is.map (nmP p)) (ys := tk) (by
    unfold List.Nodup
    rw [List.pairwise_map]
    exact hn.imp fun {a b} h q => h (nmP_inj p a b q)) fun x hx => by
      obtain ⟨i, hi, rfl⟩ := List.mem_map.mp hx
      exact (his i hi).2
  rwa [List.length_map] at this
def zS : Str := ⟨#[122]⟩
def wS : Str := ⟨#[119]⟩
/-- fresh_name -/
def fresh (tk : List Str) : Str := nmP zS (fst zS tk tk.length 0)
theorem fresh_out (tk : List Str) : fresh tk ∉ tk := fst_out zS tk 0
/-- next_name -/
def nextW (tk : List Str) (k : Nat) : Str × Nat := (nmP wS (fst wS tk tk.length k), fst wS tk tk.length k + 1)
theorem nextW_nx (tk : List Str) : Nx (nextW tk) (nmP wS) tk :=
  ⟨nmP_inj wS, fun k => ⟨fst wS tk tk.length k, fst_le.1, rfl, fst_out wS tk k⟩⟩
abbrev tidyW (t : Tm) : Tm := tidyT nextW t
abbrev rp (n : Nat) (t : Tm) (x : Str) (o : Tm) : Tm := rpl fresh n t x o
end K05

set_option maxHeartbeats 4000000
/-! Fu: how meanings are reckoned: the combinators' equations, what leaves a def, loops -/
namespace Fp
open PySem L2
/-! what comes behind, by names (no binders: a reckoning never goes into them) -/
def kCons (b : SS) (c : Cxt) (x : Fl × Mem) : R (Fl × Mem) := match x.1 with | .nx ρ' => b c ρ' x.2 | _ => .ok x
def kRet (x : D × Mem) : R (Fl × Mem) := .ok (.ret x.1, x.2)
def kExpr (ρ : EnvD) (x : D × Mem) : R (Fl × Mem) := .ok (.nx ρ, x.2)
def kSet (t : Tgt) (ρ : EnvD) (x : D × Mem) : R (Fl × Mem) := match asgD t x.1 ρ with | some ρ' => .ok (.nx ρ', x.2) | none => .bad
def kPar (is : List Nat) (ρ : EnvD) (x : List D × Mem) : R (Fl × Mem) := if x.1.length = is.length then .ok (.nx (setAll is x.1 ρ), x.2) else .bad
def kIf (a b : SS) (c : Cxt) (ρ : EnvD) (x : Bool × Mem) : R (Fl × Mem) := if x.1 then a c ρ x.2 else b c ρ x.2
def kFor (t : Tgt) (b : SS) (c : Cxt) (ρ : EnvD) (x : (List D × Option Nat) × Mem) : R (Fl × Mem) := forL t b c x.1.2 x.1.1 x.1.1 ρ x.2
def kPut (o i : SE) (c : Cxt) (ρ : EnvD) (x : D × Mem) : R (Fl × Mem) := (o c ρ x.2).bind fun y => (i c ρ y.2).bind fun z => (putIx y.1 z.1 x.1 z.2).bind fun m' => .ok (.nx ρ, m')
def kPut2 (i : SE) (v : D) (c : Cxt) (ρ : EnvD) (y : D × Mem) : R (Fl × Mem) := (i c ρ y.2).bind fun z => (putIx y.1 z.1 v z.2).bind fun m' => .ok (.nx ρ, m')
def kPut3 (o v : D) (ρ : EnvD) (z : D × Mem) : R (Fl × Mem) := (putIx o z.1 v z.2).bind fun m' => .ok (.nx ρ, m')
def kPut4 (ρ : EnvD) (m' : Mem) : R (Fl × Mem) := .ok (.nx ρ, m')
def kAug (i : Nat) (f : D → D → Mem → RD) (d : D) (ρ : EnvD) (x : D × Mem) : R (Fl × Mem) := (f d x.1 x.2).bind fun y => .ok (.nx (ρ.set i (some y.1)), y.2)
def kAug2 (i : Nat) (ρ : EnvD) (y : D × Mem) : R (Fl × Mem) := .ok (.nx (ρ.set i (some y.1)), y.2)
def kArg (r : SA) (c : Cxt) (ρ : EnvD) (x : D × Mem) : R (List D × Mem) := (r c ρ x.2).bind fun y => .ok (x.1 :: y.1, y.2)
def kArg2 (d : D) (y : List D × Mem) : R (List D × Mem) := .ok (d :: y.1, y.2)
def kApp (f : List D → Mem → RD) (x : List D × Mem) : RD := f x.1 x.2
def kOp (f : D → D → Mem → RD) (b : SE) (c : Cxt) (ρ : EnvD) (x : D × Mem) : RD := (b c ρ x.2).bind fun y => f x.1 y.1 y.2
def kOp2 (f : D → D → Mem → RD) (d : D) (y : D × Mem) : RD := f d y.1 y.2
def kUn (f : D → Mem → RD) (x : D × Mem) : RD := f x.1 x.2
def kIfE (a b : SE) (c : Cxt) (ρ : EnvD) (x : Bool × Mem) : RD := if x.1 then a c ρ x.2 else b c ρ x.2
def kCall (f : Str) (c : Cxt) (x : List D × Mem) : RD := c.orc f x.1 x.2
def kMeth (g : D → Mem → Bool) (f : D → List D → Mem → RD) (a : SA) (c : Cxt) (ρ : EnvD) (x : D × Mem) : RD := if g x.1 x.2 then (a c ρ x.2).bind fun y => f x.1 y.1 y.2 else .bad
def kMeth2 (f : D → List D → Mem → RD) (d : D) (y : List D × Mem) : RD := f d y.1 y.2
def kSl (lo hi : SO) (c : Cxt) (ρ : EnvD) (x : D × Mem) : RD := (lo c ρ x.2).bind fun l => (hi c ρ l.2).bind fun h => opSl x.1 l.1 h.1 h.2
def kSl2 (hi : SO) (d : D) (c : Cxt) (ρ : EnvD) (l : Option Int × Mem) : RD := (hi c ρ l.2).bind fun h => opSl d l.1 h.1 h.2
def kSl3 (d : D) (l : Option Int) (h : Option Int × Mem) : RD := opSl d l h.1 h.2
def kOpt (o : Option Bool) (m : Mem) : R (Bool × Mem) := match o with | some k => .ok (k, m) | none => .bad
def kCmp (f : D → D → Mem → Option Bool) (b : SE) (c : Cxt) (ρ : EnvD) (x : D × Mem) : R (Bool × Mem) := (b c ρ x.2).bind fun y => kOpt (f x.1 y.1 y.2) y.2
def kCmp2 (f : D → D → Mem → Option Bool) (d : D) (y : D × Mem) : R (Bool × Mem) := kOpt (f d y.1 y.2) y.2
def kTru (x : D × Mem) : R (Bool × Mem) := kOpt (truD x.1 x.2) x.2
def kAnd (b : ST) (c : Cxt) (ρ : EnvD) (x : Bool × Mem) : R (Bool × Mem) := if x.1 then b c ρ x.2 else .ok (false, x.2)
def kOr (b : ST) (c : Cxt) (ρ : EnvD) (x : Bool × Mem) : R (Bool × Mem) := if x.1 then .ok (true, x.2) else b c ρ x.2
def kNot (x : Bool × Mem) : R (Bool × Mem) := .ok (!x.1, x.2)
def kSome (x : D × Mem) : R (Option Int × Mem) := match x.1 with | .int i => .ok (some i, x.2) | _ => .bad
def kAndE (b : SE) (c : Cxt) (ρ : EnvD) (x : D × Mem) : RD := match truD x.1 x.2 with | some true => b c ρ x.2 | some false => .ok x | none => .bad
def kOrE (b : SE) (c : Cxt) (ρ : EnvD) (x : D × Mem) : RD := match truD x.1 x.2 with | some true => .ok x | some false => b c ρ x.2 | none => .bad
def kComp (al : Bool) (t : Tgt) (own : List Nat) (tt : ST) (e : SE) (c : Cxt) (ρ : EnvD) (x : (List D × Option Nat) × Mem) : RD :=
  (compL (compTurn t tt e c (wipeD ρ own)) x.1.2 x.1.1 x.1.1 x.2).bind fun y => mkL al y.1 y.2
def kMk (al : Bool) (y : List D × Mem) : RD := mkL al y.1 y.2
def kSeq (x : D × Mem) : R ((List D × Option Nat) × Mem) := match x.1 with
  | .tup ds => .ok ((ds, none), x.2)
  | .lst ds => .ok ((ds, none), x.2)
  | .scr is => .ok ((is.map D.int, none), x.2)
  | .ref n => match x.2[n]? with
    | some (.lst ds) => .ok ((ds, some n), x.2)
    | _ => .bad
  | _ => .bad
def kZip (x : List D × Mem) : R ((List D × Option Nat) × Mem) := match x.1 with
  | [.tup xs, .tup ys] => .ok ((zipD xs ys, none), x.2)
  | _ => .bad
def kRan1 (x : List D × Mem) : R ((List D × Option Nat) × Mem) := match x.1 with
  | [.int j] => if smallI j then .ok ((upto 0 j.toNat, none), x.2) else .bad
  | _ => .bad
def kIx (o i : SE) (f : D → D → Mem → RD) (v : SE) (c : Cxt) (ρ : EnvD) (x : D × Mem) : R (Fl × Mem) := (i c ρ x.2).bind fun y => (opGet x.1 y.1 y.2).bind fun w =>
  (v c ρ w.2).bind fun z => (f w.1 z.1 z.2).bind fun u => (putIx x.1 y.1 u.1 u.2).bind fun m' => .ok (.nx ρ, m')
def kIx2 (o : D) (f : D → D → Mem → RD) (v : SE) (c : Cxt) (ρ : EnvD) (y : D × Mem) : R (Fl × Mem) := (opGet o y.1 y.2).bind fun w =>
  (v c ρ w.2).bind fun z => (f w.1 z.1 z.2).bind fun u => (putIx o y.1 u.1 u.2).bind fun m' => .ok (.nx ρ, m')
def kIx3 (o i : D) (f : D → D → Mem → RD) (v : SE) (c : Cxt) (ρ : EnvD) (w : D × Mem) : R (Fl × Mem) :=
  (v c ρ w.2).bind fun z => (f w.1 z.1 z.2).bind fun u => (putIx o i u.1 u.2).bind fun m' => .ok (.nx ρ, m')
def kIx4 (o i : D) (f : D → D → Mem → RD) (d : D) (ρ : EnvD) (z : D × Mem) : R (Fl × Mem) := (f d z.1 z.2).bind fun u => (putIx o i u.1 u.2).bind fun m' => .ok (.nx ρ, m')
def kIx5 (o i : D) (ρ : EnvD) (u : D × Mem) : R (Fl × Mem) := (putIx o i u.1 u.2).bind fun m' => .ok (.nx ρ, m')
def kBl (x : Bool × Mem) : RD := .ok (.bl x.1, x.2)
theorem bind_ok' {α β : Type} (a : α) (f : α → R β) : R.bind (.ok a) f = f a := rfl
theorem ev :
    (∀ a b c ρ m, ssCons a b c ρ m = (a c ρ m).bind (kCons b c)) ∧
    (∀ b c ρ m, kCons b c (.nx ρ, m) = b c ρ m) ∧
    (∀ b c d m, kCons b c (.ret d, m) = .ok (.ret d, m)) ∧
    (∀ b c ρ m, kCons b c (.brk ρ, m) = .ok (.brk ρ, m)) ∧
    (∀ b c ρ m, kCons b c (.cnt ρ, m) = .ok (.cnt ρ, m)) ∧
    (∀ c ρ m, ssNil c ρ m = .ok (.nx ρ, m)) ∧
    (∀ c ρ m, ssBrk c ρ m = .ok (.brk ρ, m)) ∧
    (∀ c ρ m, ssCnt c ρ m = .ok (.cnt ρ, m)) ∧
    (∀ a c ρ m, ssRet a c ρ m = (a c ρ m).bind kRet) ∧
    (∀ d m, kRet (d, m) = .ok (.ret d, m)) ∧
    (∀ a c ρ m, ssExpr a c ρ m = (a c ρ m).bind (kExpr ρ)) ∧
    (∀ ρ d m, kExpr ρ (d, m) = .ok (.nx ρ, m)) ∧
    (∀ t a c ρ m, ssSet t a c ρ m = (a c ρ m).bind (kSet t ρ)) ∧
    (∀ i ρ d m, kSet (.nm i) ρ (d, m) = .ok (.nx (ρ.set i (some d)), m)) ∧
    (∀ is ρ ds m, kSet (.tp is) ρ (.tup ds, m) = kPar is ρ (ds, m)) ∧
    (∀ is a c ρ m, ssPar is a c ρ m = (a c ρ m).bind (kPar is ρ)) ∧
    (∀ i is d ds ρ m, kPar (i :: is) ρ (d :: ds, m) = kPar is (ρ.set i (some d)) (ds, m)) ∧
    (∀ ρ m, kPar [] ρ ([], m) = .ok (.nx ρ, m)) ∧
    (∀ t a b c ρ m, ssIf t a b c ρ m = (t c ρ m).bind (kIf a b c ρ)) ∧
    (∀ a b c ρ m, kIf a b c ρ (true, m) = a c ρ m) ∧
    (∀ a b c ρ m, kIf a b c ρ (false, m) = b c ρ m) ∧
    (∀ it t b c ρ m, ssFor it t b c ρ m = (it c ρ m).bind (kFor t b c ρ)) ∧
    (∀ t b c ρ ds src m, kFor t b c ρ ((ds, src), m) = forL t b c src ds ds ρ m) ∧
    (∀ o i v c ρ m, ssPut o i v c ρ m = (v c ρ m).bind (kPut o i c ρ)) ∧
    (∀ o i c ρ d m, kPut o i c ρ (d, m) = (o c ρ m).bind (kPut2 i d c ρ)) ∧
    (∀ i v c ρ d m, kPut2 i v c ρ (d, m) = (i c ρ m).bind (kPut3 d v ρ)) ∧
    (∀ o v ρ d m, kPut3 o v ρ (d, m) = (putIx o d v m).bind (kPut4 ρ)) ∧
    (∀ ρ m, kPut4 ρ m = .ok (.nx ρ, m)) ∧
    (∀ f a c ρ m d, ssAug 0 f a c (some d :: ρ) m = (a c (some d :: ρ) m).bind (kAug 0 f d (some d :: ρ))) ∧
    (∀ f a c ρ m d e, ssAug 1 f a c (e :: some d :: ρ) m = (a c (e :: some d :: ρ) m).bind (kAug 1 f d (e :: some d :: ρ))) ∧
    (∀ i f d ρ e m, kAug i f d ρ (e, m) = (f d e m).bind (kAug2 i ρ)) ∧
    (∀ i ρ d m, kAug2 i ρ (d, m) = .ok (.nx (ρ.set i (some d)), m)) ∧
    (∀ o i f v c ρ m, ssAugIx o i f v c ρ m = (o c ρ m).bind (kIx o i f v c ρ)) ∧
    (∀ o i f v c ρ d m, kIx o i f v c ρ (d, m) = (i c ρ m).bind (kIx2 d f v c ρ)) ∧
    (∀ o f v c ρ d m, kIx2 o f v c ρ (d, m) = (opGet o d m).bind (kIx3 o d f v c ρ)) ∧
    (∀ o i f v c ρ d m, kIx3 o i f v c ρ (d, m) = (v c ρ m).bind (kIx4 o i f d ρ)) ∧
    (∀ o i f d ρ e m, kIx4 o i f d ρ (e, m) = (f d e m).bind (kIx5 o i ρ)) ∧
    (∀ o i ρ d m, kIx5 o i ρ (d, m) = (putIx o i d m).bind (kPut4 ρ)) ∧
    (∀ d c ρ m, sK d c ρ m = .ok (d, m)) ∧
    (∀ c ρ m, sNil c ρ m = .ok ([], m)) ∧
    (∀ a r c ρ m, sCons a r c ρ m = (a c ρ m).bind (kArg r c ρ)) ∧
    (∀ r c ρ d m, kArg r c ρ (d, m) = (r c ρ m).bind (kArg2 d)) ∧
    (∀ d ds m, kArg2 d (ds, m) = .ok (d :: ds, m)) ∧
    (∀ f a c ρ m, sApp f a c ρ m = (a c ρ m).bind (kApp f)) ∧
    (∀ f ds m, kApp f (ds, m) = f ds m) ∧
    (∀ f a b c ρ m, sOp f a b c ρ m = (a c ρ m).bind (kOp f b c ρ)) ∧
    (∀ f b c ρ d m, kOp f b c ρ (d, m) = (b c ρ m).bind (kOp2 f d)) ∧
    (∀ f d e m, kOp2 f d (e, m) = f d e m) ∧
    (∀ f a c ρ m, sUn f a c ρ m = (a c ρ m).bind (kUn f)) ∧
    (∀ f d m, kUn f (d, m) = f d m) ∧
    (∀ t a b c ρ m, sIfE t a b c ρ m = (t c ρ m).bind (kIfE a b c ρ)) ∧
    (∀ a b c ρ m, kIfE a b c ρ (true, m) = a c ρ m) ∧
    (∀ a b c ρ m, kIfE a b c ρ (false, m) = b c ρ m) ∧
    (∀ f a c ρ m, sCall f a c ρ m = (a c ρ m).bind (kCall f c)) ∧
    (∀ f o n ds m, kCall f ⟨o, n⟩ (ds, m) = o f ds m) ∧
    (∀ g f o a c ρ m, sMeth g f o a c ρ m = (o c ρ m).bind (kMeth g f a c ρ)) ∧
    (∀ g f a c ρ d m, kMeth g f a c ρ (d, m) = if g d m then (a c ρ m).bind (kMeth2 f d) else .bad) ∧
    (∀ f d ds m, kMeth2 f d (ds, m) = f d ds m) ∧
    (∀ a lo hi c ρ m, sSl a lo hi c ρ m = (a c ρ m).bind (kSl lo hi c ρ)) ∧
    (∀ lo hi c ρ d m, kSl lo hi c ρ (d, m) = (lo c ρ m).bind (kSl2 hi d c ρ)) ∧
    (∀ hi d c ρ l m, kSl2 hi d c ρ (l, m) = (hi c ρ m).bind (kSl3 d l)) ∧
    (∀ d l h m, kSl3 d l (h, m) = opSl d l h m) ∧
    (∀ f a b c ρ m, stCmp f a b c ρ m = (a c ρ m).bind (kCmp f b c ρ)) ∧
    (∀ f b c ρ d m, kCmp f b c ρ (d, m) = (b c ρ m).bind (kCmp2 f d)) ∧
    (∀ f d e m, kCmp2 f d (e, m) = kOpt (f d e m) m) ∧
    (∀ b m, kOpt (some b) m = .ok (b, m)) ∧
    (∀ f d e m, opC f d e m = (kOpt (f d e m) m).bind kBl) ∧
    (∀ b m, kBl (b, m) = .ok (.bl b, m)) ∧
    (∀ a c ρ m, stTru a c ρ m = (a c ρ m).bind kTru) ∧
    (∀ d m, kTru (d, m) = kOpt (truD d m) m) ∧
    (∀ a b c ρ m, stAnd a b c ρ m = (a c ρ m).bind (kAnd b c ρ)) ∧
    (∀ b c ρ m, kAnd b c ρ (true, m) = b c ρ m) ∧
    (∀ b c ρ m, kAnd b c ρ (false, m) = .ok (false, m)) ∧
    (∀ a b c ρ m, stOr a b c ρ m = (a c ρ m).bind (kOr b c ρ)) ∧
    (∀ b c ρ m, kOr b c ρ (true, m) = .ok (true, m)) ∧
    (∀ b c ρ m, kOr b c ρ (false, m) = b c ρ m) ∧
    (∀ a c ρ m, stNot a c ρ m = (a c ρ m).bind kNot) ∧
    (∀ b m, kNot (b, m) = .ok (!b, m)) ∧
    (∀ c ρ m, stYes c ρ m = .ok (true, m)) ∧
    (∀ c ρ m, soNo c ρ m = .ok (none, m)) ∧
    (∀ a c ρ m, soSome a c ρ m = (a c ρ m).bind kSome) ∧
    (∀ i m, kSome (.int i, m) = .ok (some i, m)) ∧
    (∀ a b c ρ m, sAndE a b c ρ m = (a c ρ m).bind (kAndE b c ρ)) ∧
    (∀ b c ρ m, kAndE b c ρ (.bl true, m) = b c ρ m) ∧
    (∀ b c ρ m, kAndE b c ρ (.bl false, m) = .ok (.bl false, m)) ∧
    (∀ a b c ρ m, sOrE a b c ρ m = (a c ρ m).bind (kOrE b c ρ)) ∧
    (∀ b c ρ m, kOrE b c ρ (.bl true, m) = .ok (.bl true, m)) ∧
    (∀ b c ρ m, kOrE b c ρ (.bl false, m) = b c ρ m) ∧
    (∀ a c ρ m, siSeq a c ρ m = (a c ρ m).bind kSeq) ∧
    (∀ ds m, kSeq (.tup ds, m) = .ok ((ds, none), m)) ∧
    (∀ ds m, kSeq (.lst ds, m) = .ok ((ds, none), m)) ∧
    (∀ a c ρ m, siZip a c ρ m = (a c ρ m).bind kZip) ∧
    (∀ xs ys m, kZip ([.tup xs, .tup ys], m) = .ok ((zipD xs ys, none), m)) ∧
    (∀ al it t own tt e c ρ m, sComp al it t own tt e c ρ m = (it c ρ m).bind (kComp al t own tt e c ρ)) ∧
    (∀ al t own tt e c ρ ds src m, kComp al t own tt e c ρ ((ds, src), m) = (compL (compTurn t tt e c (wipeD ρ own)) src ds ds m).bind (kMk al)) ∧
    (∀ al ds m, kMk al (ds, m) = mkL al ds m) :=
  ⟨fun _ _ _ _ _ => rfl,
   fun _ _ _ _ => rfl,
   fun _ _ _ _ => rfl,
   fun _ _ _ _ => rfl,
   fun _ _ _ _ => rfl,
   fun _ _ _ => rfl,
   fun _ _ _ => rfl,
   fun _ _ _ => rfl,
   fun _ _ _ _ => rfl,
   fun _ _ => rfl,
   fun _ _ _ _ => rfl,
   fun _ _ _ => rfl,
   fun _ _ _ _ _ => rfl,
   fun _ _ _ _ => rfl,
   fun is ρ ds m => (by unfold kSet kPar; simp only [asgD]; by_cases h : ds.length = is.length <;> simp only [h, if_true, if_false, reduceIte]),
   fun _ _ _ _ _ => rfl,
   fun i is d ds ρ m => (by unfold kPar; simp only [List.length_cons, Nat.add_right_cancel_iff, setAll]),
   fun _ _ => rfl,
   fun _ _ _ _ _ _ => rfl,
   fun _ _ _ _ _ => rfl,
   fun _ _ _ _ _ => rfl,
   fun _ _ _ _ _ _ => rfl,
   fun _ _ _ _ _ _ _ => rfl,
   fun _ _ _ _ _ _ => rfl,
   fun _ _ _ _ _ _ => rfl,
   fun _ _ _ _ _ _ => rfl,
   fun _ _ _ _ _ => rfl,
   fun _ _ => rfl,
   fun _ _ _ _ _ _ => rfl,
   fun _ _ _ _ _ _ _ => rfl,
   fun _ _ _ _ _ _ => rfl,
   fun _ _ _ _ => rfl,
   fun _ _ _ _ _ _ _ => rfl,
   fun _ _ _ _ _ _ _ _ => rfl,
   fun _ _ _ _ _ _ _ => rfl,
   fun _ _ _ _ _ _ _ _ => rfl,
   fun _ _ _ _ _ _ _ => rfl,
   fun _ _ _ _ _ => rfl,
   fun _ _ _ _ => rfl,
   fun _ _ _ => rfl,
   fun _ _ _ _ _ => rfl,
   fun _ _ _ _ _ => rfl,
   fun _ _ _ => rfl,
   fun _ _ _ _ _ => rfl,
   fun _ _ _ => rfl,
   fun _ _ _ _ _ _ => rfl,
   fun _ _ _ _ _ _ => rfl,
   fun _ _ _ _ => rfl,
   fun _ _ _ _ _ => rfl,
   fun _ _ _ => rfl,
   fun _ _ _ _ _ _ => rfl,
   fun _ _ _ _ _ => rfl,
   fun _ _ _ _ _ => rfl,
   fun _ _ _ _ _ => rfl,
   fun _ _ _ _ _ => rfl,
   fun _ _ _ _ _ _ _ => rfl,
   fun _ _ _ _ _ _ _ => rfl,
   fun _ _ _ _ => rfl,
   fun _ _ _ _ _ _ => rfl,
   fun _ _ _ _ _ _ => rfl,
   fun _ _ _ _ _ _ => rfl,
   fun _ _ _ _ => rfl,
   fun _ _ _ _ _ _ => rfl,
   fun _ _ _ _ _ _ => rfl,
   fun _ _ _ _ => rfl,
   fun _ _ => rfl,
   fun f d e m => (by unfold opC; cases f d e m <;> rfl),
   fun _ _ => rfl,
   fun _ _ _ _ => rfl,
   fun _ _ => rfl,
   fun _ _ _ _ _ => rfl,
   fun _ _ _ _ => rfl,
   fun _ _ _ _ => rfl,
   fun _ _ _ _ _ => rfl,
   fun _ _ _ _ => rfl,
   fun _ _ _ _ => rfl,
   fun _ _ _ _ => rfl,
   fun _ _ => rfl,
   fun _ _ _ => rfl,
   fun _ _ _ => rfl,
   fun _ _ _ _ => rfl,
   fun _ _ => rfl,
   fun _ _ _ _ _ => rfl,
   fun _ _ _ _ => rfl,
   fun _ _ _ _ => rfl,
   fun _ _ _ _ _ => rfl,
   fun _ _ _ _ => rfl,
   fun _ _ _ _ => rfl,
   fun _ _ _ _ => rfl,
   fun _ _ => rfl,
   fun _ _ => rfl,
   fun _ _ _ _ => rfl,
   fun _ _ _ => rfl,
   fun _ _ _ _ _ _ _ _ _ => rfl,
   fun _ _ _ _ _ _ _ _ _ _ => rfl,
   fun _ _ _ => rfl⟩

/-! ### data without objects -/
mutual
theorem refs_mono {k j : Nat} (h : k ≤ j) : ∀ {d : D}, refsB k d = true → refsB j d = true
  | .non, _ => rfl
  | .bl _, _ => rfl
  | .int _, _ => rfl
  | .str _, _ => rfl
  | .scr _, _ => rfl
  | .tup ds, q => by
    rw [refsB] at q ⊢
    exact refss_mono h q
  | .lst ds, q => by
    rw [refsB] at q ⊢
    exact refss_mono h q
  | .dct _ ds, q => by
    rw [refsB] at q ⊢
    exact refss_mono h q
  | .ref n, q => by
    rw [refsB] at q ⊢
    have := of_decide_eq_true q
    exact decide_eq_true (by omega)
theorem refss_mono {k j : Nat} (h : k ≤ j) : ∀ {ds : List D}, refsBs k ds = true → refsBs j ds = true
  | [], _ => rfl
  | d :: ds, q => by
    rw [refsBs, Bool.and_eq_true] at q ⊢
    exact ⟨refs_mono h q.1, refss_mono h q.2⟩
end
mutual
theorem frz_id {m : Mem} {k : Nat} : ∀ {d : D}, refsB k d = true → frzD m k d = some d
  | .non, _ => rfl
  | .bl _, _ => rfl
  | .int _, _ => rfl
  | .str _, _ => rfl
  | .scr _, _ => rfl
  | .tup ds, q => by
    rw [refsB] at q
    rw [frzD, frzs_id q]
    rfl
  | .lst ds, q => by
    rw [refsB] at q
    rw [frzD, frzs_id q]
    rfl
  | .dct _ ds, q => by
    rw [refsB] at q
    rw [frzD, frzs_id q]
    rfl
  | .ref n, q => by
    rw [refsB] at q
    rw [frzD, if_pos (of_decide_eq_true q)]
theorem frzs_id {m : Mem} {k : Nat} : ∀ {ds : List D}, refsBs k ds = true → frzDs m k ds = some ds
  | [], _ => rfl
  | d :: ds, q => by
    rw [refsBs, Bool.and_eq_true] at q
    rw [frzDs, frz_id q.1, frzs_id q.2]
end
theorem refss_append {k : Nat} : ∀ {xs ys : List D}, refsBs k (xs ++ ys) = (refsBs k xs && refsBs k ys)
  | [], _ => rfl
  | x :: xs, ys => by rw [List.cons_append, refsBs, refsBs, refss_append, Bool.and_assoc]
theorem refss_all {k : Nat} : ∀ {xs : List D}, (∀ x ∈ xs, refsB k x = true) → refsBs k xs = true
  | [], _ => rfl
  | x :: xs, h => by rw [refsBs, h x List.mem_cons_self, refss_all fun y hy => h y (List.mem_cons_of_mem _ hy)]; rfl
theorem refss_strs {k : Nat} (xs : List Str) : refsBs k (xs.map D.str) = true := refss_all fun x hx => by
  obtain ⟨y, _, rfl⟩ := List.mem_map.mp hx
  rfl
theorem obB_mono {k j : Nat} (h : k ≤ j) : ∀ {o : Ob}, obB k o = true → obB j o = true
  | .lst _, q => refss_mono h q
  | .dct _, q => refss_mono h q
/-- no object of m tells of others than m's own -/
def Cl (m : Mem) : Prop := m.all (obB m.length) = true
theorem Cl.nil : Cl [] := rfl
theorem Cl.app {m : Mem} {o : Ob} (h : Cl m) (ho : obB (m.length + 1) o = true) : Cl (m ++ [o]) := by
  unfold Cl at h ⊢
  rw [List.all_append, List.length_append, Bool.and_eq_true]
  refine ⟨List.all_eq_true.mpr fun x hx => obB_mono (Nat.le_succ _) (List.all_eq_true.mp h x hx), ?_⟩
  rw [List.all_cons, List.all_nil, Bool.and_true]
  exact ho
theorem Cl.set {m : Mem} {o : Ob} {n : Nat} (h : Cl m) (ho : obB m.length o = true) : Cl (m.set n o) := by
  unfold Cl at h ⊢
  rw [List.length_set]
  refine List.all_eq_true.mpr fun x hx => ?_
  rcases List.mem_or_eq_of_mem_set hx with q | q
  · exact List.all_eq_true.mp h x q
  · rw [q]; exact ho
/-- a def that answers d: its own objects go -/
theorem fin_ret {m m1 : Mem} {l : List Ob} {r : R (Fl × Mem)} {d e : D} (h : r = .ok (.ret d, m1 ++ l)) (hk : m1.length = m.length) (hc : Cl m1) (hf : frzD (m1 ++ l) m.length d = some e) : finish m.length r = .ok (e, m1) := by
  rw [h]
  unfold finish
  rw [R.bind_ok]
  dsimp only
  unfold leave
  rw [hf]
  dsimp only
  rw [← hk, List.take_left, if_pos (show m1.all (obB m1.length) = true from hc)]
theorem fin_data {m : Mem} {l : List Ob} {r : R (Fl × Mem)} {d : D} (h : r = .ok (.ret d, m ++ l)) (hc : Cl m) (hd : refsB 0 d = true) : finish m.length r = .ok (d, m) :=
  fin_ret h rfl hc (frz_id (refs_mono (Nat.zero_le _) hd))
theorem fin_same {m : Mem} {r : R (Fl × Mem)} {d : D} (h : r = .ok (.ret d, m)) (hc : Cl m) (hd : refsB 0 d = true) : finish m.length r = .ok (d, m) :=
  fin_data (l := []) (by rw [List.append_nil]; exact h) hc hd
theorem callN_at {tb : Str → Option FnE} {L n np ns : Nat} {f : Str} {s : SS} {ds : List D} {m : Mem} (h : tb f = some ⟨np, ns, s⟩) (hl : ds.length = np) :
    callN tb L (n + 1) f ds m = finish m.length (s ⟨callN tb L n, L⟩ (ds.map some ++ List.replicate (ns - ds.length) none) m) := by
  unfold callN
  rw [h]
  dsimp only
  rw [if_pos hl]

/-! ### loops -/
/-- a walk over values, every turn going on -/
theorem forL_run {α σ : Type} {t : Tgt} {b : SS} {c : Cxt} {all : List D} {g : α → D} {f : σ → α → σ} {E : σ → EnvD → Mem → Prop} :
    ∀ {xs : List α} {s : σ} {ρ : EnvD} {m : Mem}, (∀ s x ρ m, x ∈ xs → E s ρ m → ∃ ρ1 ρ2 m2, asgD t (g x) ρ = some ρ1 ∧ (b c ρ1 m = .ok (.nx ρ2, m2) ∨ b c ρ1 m = .ok (.cnt ρ2, m2)) ∧ E (f s x) ρ2 m2) →
    E s ρ m → ∃ ρ' m', forL t b c none all (xs.map g) ρ m = .ok (.nx ρ', m') ∧ E (xs.foldl f s) ρ' m'
  | [], s, ρ, m, _, h => ⟨ρ, m, rfl, h⟩
  | x :: xs, s, ρ, m, hs, h => by
    obtain ⟨ρ1, ρ2, m2, h1, h2, h3⟩ := hs s x ρ m List.mem_cons_self h
    obtain ⟨ρ', m', h4, h5⟩ := forL_run (xs := xs) (fun s x ρ m hx => hs s x ρ m (List.mem_cons_of_mem _ hx)) h3
    refine ⟨ρ', m', ?_, h5⟩
    rw [List.map_cons, forL]
    show (if true then _ else _) = _
    rw [if_pos rfl, h1]
    dsimp only
    rcases h2 with h2 | h2
    · rw [h2]
      exact h4
    · rw [h2]
      exact h4
/-- a comprehension over values whose turns leave the memory alone -/
theorem compL_run {α : Type} {f : D → Mem → R (List D × Mem)} {all : List D} {g : α → D} {r : α → List D} {m : Mem} :
    ∀ {xs : List α}, (∀ x ∈ xs, f (g x) m = .ok (r x, m)) → compL f none all (xs.map g) m = .ok ((xs.map r).flatten, m)
  | [], _ => rfl
  | x :: xs, h => by
    rw [List.map_cons, compL]
    show (if true then _ else _) = _
    rw [if_pos rfl, h x List.mem_cons_self, R.bind_ok]
    dsimp only
    rw [compL_run fun x hx => h x (List.mem_cons_of_mem _ hx), R.bind_ok]
    rfl
theorem compL_filter {α : Type} {f : D → Mem → R (List D × Mem)} {all : List D} {g : α → D} {p : α → Bool} {m : Mem} {xs : List α}
    (h : ∀ x ∈ xs, f (g x) m = .ok (if p x then [g x] else [], m)) : compL f none all (xs.map g) m = .ok ((xs.filter p).map g, m) := by
  rw [compL_run (r := fun x => if p x then [g x] else []) h]
  congr 2
  induction xs with
  | nil => rfl
  | cons x xs ih =>
    rw [List.map_cons, List.flatten_cons, ih fun x hx => h x (List.mem_cons_of_mem _ hx), List.filter_cons]
    split <;> rfl
end Fp

set_option maxHeartbeats 4000000
/-! Fv: equations of the operations, for reckoning -/
namespace Fp
open PySem L2
def optD (o : Option D) (m : Mem) : RD := match o with | some v => .ok (v, m) | none => .bad
@[simp] theorem optD_some (d : D) (m : Mem) : optD (some d) m = .ok (d, m) := rfl
theorem atI_nat {ds : List D} {k : Nat} : atI ds (k : Int) = ds[k]? := by
  unfold atI ixN
  rw [if_pos (by omega)]
  split
  · rfl
  · rename_i h
    rw [List.getElem?_eq_none (by omega)]
    rfl
theorem ix_tup {ds : List D} {k : Nat} {m : Mem} : opIx (.tup ds) (.int (k : Int)) m = optD ds[k]? m := by
  show (match atI ds (k : Int) with | some v => (R.ok (v, m) : RD) | none => R.bad) = _
  rw [atI_nat]
  rfl
theorem ix_lst {ds : List D} {k : Nat} {m : Mem} : opIx (.lst ds) (.int (k : Int)) m = optD ds[k]? m := by
  show (match atI ds (k : Int) with | some v => (R.ok (v, m) : RD) | none => R.bad) = _
  rw [atI_nat]
  rfl
theorem shp_str {x : Str} (h : PyData.strOk x = true) : shp (.str x) = true := by
  show (PyData.canLay0 (.str x) && decide (PyData.depth (.str x) ≤ 64)) = true
  rw [show PyData.canLay0 (.str x) = PyData.strOk x by simp only [PyData.canLay0], h, show PyData.depth (.str x) = 0 by simp only [PyData.depth]]
  rfl
theorem shp_int {i : Int} : shp (.int i) = true := by
  show (PyData.canLay0 (.int i) && decide (PyData.depth (.int i) ≤ 64)) = true
  rw [show PyData.canLay0 (.int i) = true by simp only [PyData.canLay0], show PyData.depth (.int i) = 0 by simp only [PyData.depth]]
  rfl
theorem cpEq_str {x y : Str} {m : Mem} (hx : PyData.strOk x = true) (hy : PyData.strOk y = true) : cpEq (.str x) (.str y) m = some (x == y) := by
  unfold cpEq eqD
  show (if shp (.str x) = true ∧ shp (.str y) = true then some (PyData.eqv (.str x) (.str y)) else none) = _
  rw [if_pos ⟨shp_str hx, shp_str hy⟩]
  simp only [PyData.eqv]
theorem cpNe_str {x y : Str} {m : Mem} (hx : PyData.strOk x = true) (hy : PyData.strOk y = true) : cpNe (.str x) (.str y) m = some (!(x == y)) := by
  have := cpEq_str (m := m) hx hy
  unfold cpEq at this
  unfold cpNe
  rw [this]
  rfl
theorem cpEq_int {x y : Int} {m : Mem} : cpEq (.int x) (.int y) m = some (x == y) := by
  unfold cpEq eqD
  show (if shp (.int x) = true ∧ shp (.int y) = true then some (PyData.eqv (.int x) (.int y)) else none) = _
  rw [if_pos ⟨shp_int, shp_int⟩]
  simp only [PyData.eqv]
/-- is x one of these texts -/
def kIn (x : Str) : List D → Option Bool
  | [] => some false
  | .str y :: ds => match kIn x ds with | some b => some (y == x || b) | none => none
  | _ => none
theorem kIn_flat {x : Str} : ∀ {ds : List D} {b : Bool}, kIn x ds = some b → ds.all flatD = true ∧ memF (.str x) ds = b
  | [], b, h => by cases h; exact ⟨rfl, rfl⟩
  | d :: ds, b, h => by
    cases d with
    | str y =>
      unfold kIn at h
      cases q : kIn x ds with
      | none => rw [q] at h; cases h
      | some b' =>
        rw [q] at h
        cases h
        have ih := kIn_flat q
        refine ⟨?_, ?_⟩
        · rw [List.all_cons, ih.1]
          rfl
        · unfold memF at ih ⊢
          rw [List.any_cons, ih.2]
          rfl
    | _ => cases h
theorem cpIn_of {x : Str} {ds : List D} {b : Bool} {m : Mem} (h : kIn x ds = some b) : cpIn (.str x) (.tup ds) m = some b := by
  have q := kIn_flat h
  show (if flatD (.str x) = true ∧ ds.all flatD = true then some (memF (.str x) ds) else none) = _
  rw [if_pos ⟨rfl, q.1⟩, q.2]
theorem kIn_strs {x : Str} : ∀ {ys : List Str}, kIn x (ys.map D.str) = some (decide (x ∈ ys))
  | [] => rfl
  | y :: ys => by
    rw [List.map_cons, kIn, kIn_strs]
    dsimp only
    congr 1
    by_cases h : y = x
    · subst h
      simp
    · simp [h, Ne.symm h]
theorem cpIn_strs {x : Str} {ys : List Str} {m : Mem} : cpIn (.str x) (.tup (ys.map D.str)) m = some (decide (x ∈ ys)) := cpIn_of kIn_strs
theorem cpNotIn_strs {x : Str} {ys : List Str} {m : Mem} : cpNotIn (.str x) (.tup (ys.map D.str)) m = some (!decide (x ∈ ys)) := by
  unfold cpNotIn
  rw [cpIn_strs]
  rfl
theorem cpIn2 {x y z : Str} {m : Mem} : cpIn (.str x) (.tup [.str y, .str z]) m = some (y == x || (z == x || false)) := cpIn_of rfl
theorem cpIn3 {x y z u : Str} {m : Mem} : cpIn (.str x) (.tup [.str y, .str z, .str u]) m = some (y == x || (z == x || (u == x || false))) := cpIn_of rfl
/-- the equations of operations on data in plain sight -/
theorem evd :
    (∀ d c ρ m, sVar 0 c (some d :: ρ) m = .ok (d, m)) ∧
    (∀ i e c ρ m, sVar (i + 1) c (e :: ρ) m = sVar i c ρ m) ∧
    (∀ i d ρ, asgD (.nm i) d ρ = some (ρ.set i (some d))) ∧
    (∀ is ds ρ, asgD (.tp is) (.tup ds) ρ = if ds.length = is.length then some (setAll is ds ρ) else none) ∧
    (∀ ρ ds, setAll [] ds ρ = ρ) ∧
    (∀ i is d ds ρ, setAll (i :: is) (d :: ds) ρ = setAll is ds (ρ.set i (some d))) ∧
    (∀ e v ρ, List.set (e :: ρ) 0 v = (v :: ρ : EnvD)) ∧
    (∀ e i v ρ, List.set (e :: ρ) (i + 1) v = (e :: List.set ρ i v : EnvD)) ∧
    (∀ ds m, opIx (.tup ds) (.int 0) m = optD ds[0]? m) ∧
    (∀ ds m, opIx (.tup ds) (.int 1) m = optD ds[1]? m) ∧
    (∀ ds m, opIx (.tup ds) (.int 2) m = optD ds[2]? m) ∧
    (∀ ds m, opIx (.tup ds) (.int 3) m = optD ds[3]? m) ∧
    (∀ ds m, opIx (.tup ds) (.int 4) m = optD ds[4]? m) ∧
    (∀ ds m, opIx (.tup ds) (.int 5) m = optD ds[5]? m) ∧
    (∀ x y m, PyData.strOk x = true → PyData.strOk y = true → cpEq (.str x) (.str y) m = some (x == y)) ∧
    (∀ x y m, PyData.strOk x = true → PyData.strOk y = true → cpNe (.str x) (.str y) m = some (!(x == y))) ∧
    (∀ x y m, cpEq (.int x) (.int y) m = some (x == y)) ∧
    (∀ x y m, cpLt (.int x) (.int y) m = some (decide (x < y))) ∧
    (∀ x y m, cpLe (.int x) (.int y) m = some (decide (x ≤ y))) ∧
    (∀ x y m, cpGt (.int x) (.int y) m = some (decide (y < x))) ∧
    (∀ x y m, cpGe (.int x) (.int y) m = some (decide (y ≤ x))) ∧
    (∀ x y m, opAdd (.int x) (.int y) m = .ok (.int (x + y), m)) ∧
    (∀ x y m, opSub (.int x) (.int y) m = .ok (.int (x - y), m)) ∧
    (∀ x y m, opIAdd (.int x) (.int y) m = .ok (.int (x + y), m)) ∧
    (∀ b m, truD (.bl b) m = some b) ∧
    (∀ f d m, one f [d] m = f d m) ∧
    (∀ x y z m, cpIn (.str x) (.tup [.str y, .str z]) m = some (y == x || (z == x || false))) ∧
    (∀ x y z u m, cpIn (.str x) (.tup [.str y, .str z, .str u]) m = some (y == x || (z == x || (u == x || false)))) ∧
    (∀ m, sTup [] m = .ok (.tup [], m)) ∧
    (∀ a m, sTup [a] m = .ok (.tup [a], m)) ∧
    (∀ a b m, sTup [a, b] m = .ok (.tup [a, b], m)) ∧
    (∀ a b c m, sTup [a, b, c] m = .ok (.tup [a, b, c], m)) ∧
    (∀ a b c d m, sTup [a, b, c, d] m = .ok (.tup [a, b, c, d], m)) ∧
    (∀ m, mkL false [] m = .ok (.lst [], m)) ∧
    (∀ a m, mkL false [a] m = .ok (.lst [a], m)) ∧
    (∀ m, mkL true [] m = .ok (.ref m.length, m ++ [.lst []])) ∧
    (∀ a m, mkL true [a] m = .ok (.ref m.length, m ++ [.lst [a]])) ∧
    (∀ ds m, biTuple (.tup ds) m = .ok (.tup ds, m)) ∧
    (∀ ds m, biTuple (.lst ds) m = .ok (.tup ds, m)) ∧
    (∀ ds m, biLen (.tup ds) m = .ok (.int ds.length, m)) ∧
    (∀ ds m, biLen (.lst ds) m = .ok (.int ds.length, m)) ∧
    (∀ a, ([a] : List D)[0]? = some a) ∧
    (∀ a ds i, (a :: ds : List D)[i + 1]? = ds[i]?) ∧
    (∀ a ds, (a :: ds : List D)[0]? = some a) ∧
    (∀ d m, optD (some d) m = .ok (d, m)) ∧
    (∀ b : Bool, (false || b) = b) ∧ (∀ b : Bool, (true || b) = true) ∧ ((!true) = false) ∧ ((!false) = true) :=
  ⟨fun _ _ _ _ => rfl, fun _ _ _ _ _ => rfl, fun _ _ _ => rfl, fun _ _ _ => rfl, fun ρ ds => by cases ds <;> rfl, fun _ _ _ _ _ => rfl, fun _ _ _ => rfl, fun _ _ _ _ => rfl,
    fun _ _ => ix_tup (k := 0), fun _ _ => ix_tup (k := 1), fun _ _ => ix_tup (k := 2), fun _ _ => ix_tup (k := 3), fun _ _ => ix_tup (k := 4), fun _ _ => ix_tup (k := 5),
    fun _ _ _ h h' => cpEq_str h h', fun _ _ _ h h' => cpNe_str h h', fun _ _ _ => cpEq_int, fun _ _ _ => rfl, fun _ _ _ => rfl, fun _ _ _ => rfl, fun _ _ _ => rfl, fun _ _ _ => rfl, fun _ _ _ => rfl, fun _ _ _ => rfl, fun _ _ => rfl, fun _ _ _ => rfl,
    fun _ _ _ _ => cpIn2, fun _ _ _ _ _ => cpIn3, fun _ => rfl, fun _ _ => by kernel_rfl, fun _ _ _ => by kernel_rfl, fun _ _ _ _ => by kernel_rfl, fun _ _ _ _ _ => by kernel_rfl, fun _ => rfl, fun _ _ => by kernel_rfl, fun _ => rfl, fun _ _ => by kernel_rfl, fun _ _ => rfl, fun _ _ => rfl, fun _ _ => rfl, fun _ _ => rfl, fun _ => rfl, fun _ _ _ => rfl, fun _ _ => rfl, fun _ _ => rfl, fun _ => rfl, fun _ => rfl, rfl, rfl⟩
end Fp

set_option maxHeartbeats 4000000
/-! Fw: a def's own objects, behind the memory that it was given; walks with what is left to walk -/
namespace Fp
open PySem L2
theorem own_get {m l : Mem} {i : Nat} : (m ++ l)[m.length + i]? = l[i]? := by
  rw [List.getElem?_append_right (by omega)]
  congr 1
  omega
theorem own_get0 {m l : Mem} : (m ++ l)[m.length]? = l[0]? := own_get (i := 0)
theorem own_set {m l : Mem} {i : Nat} {o : Ob} : (m ++ l).set (m.length + i) o = m ++ l.set i o := by
  have e : m.length + i - m.length = i := by omega
  rw [List.set_append, if_neg (by omega), e]
theorem own_set0 {m l : Mem} {o : Ob} : (m ++ l).set m.length o = m ++ l.set 0 o := own_set (i := 0)
theorem isL_ref {n : Nat} {m : Mem} {ds : List D} (h : m[n]? = some (.lst ds)) : isL (.ref n) m = true := by
  unfold isL listD
  simp only [h]
  rfl
theorem ext_ref {n : Nat} {m : Mem} {ds xs : List D} {e : D} (h : m[n]? = some (.lst ds)) (he : listD e m = some xs) (hl : ds.length + xs.length ≤ LIM) : mExtend (.ref n) [e] m = .ok (.non, m.set n (.lst (ds ++ xs))) := by
  unfold mExtend
  dsimp only
  rw [h, he]
  dsimp only
  rw [if_pos hl]
theorem app_ref {n : Nat} {m : Mem} {ds : List D} {e : D} (h : m[n]? = some (.lst ds)) (hl : ds.length < LIM) : mAppend (.ref n) [e] m = .ok (.non, m.set n (.lst (ds ++ [e]))) := by
  unfold mAppend
  dsimp only
  rw [h]
  dsimp only
  rw [if_pos hl]
theorem list_ref {n : Nat} {m : Mem} {ds : List D} (h : m[n]? = some (.lst ds)) : listD (.ref n) m = some ds := by
  unfold listD
  simp only [h]
theorem items_ref {n : Nat} {m : Mem} {ds : List D} (h : m[n]? = some (.lst ds)) : itemsD (.ref n) m = some ds := by
  unfold itemsD
  simp only [h]
theorem zipD_map {α : Type} (f g : α → D) : ∀ xs : List α, zipD (xs.map f) (xs.map g) = xs.map fun r => .tup [f r, g r]
  | [] => rfl
  | x :: xs => by
    have := zipD_map f g xs
    unfold zipD at this ⊢
    rw [List.map_cons, List.map_cons, List.zip_cons_cons, List.map_cons, this]
    rfl
theorem strsD_map : ∀ xs : List Str, strsD (xs.map D.str) = some xs
  | [] => rfl
  | x :: xs => by rw [List.map_cons, strsD, strsD_map]; rfl
theorem sortSet_ok {d : D} {m : Mem} {xs : List Str} (h : listD d m = some (xs.map D.str)) (hl : xs.length < 4095) : biSortSet d m = .ok (.lst ((sortS (ddS xs)).map D.str), m) := by
  unfold biSortSet setD
  rw [h]
  dsimp only
  rw [strsD_map]
  dsimp only
  rw [if_pos hl]
theorem lenSet_ok {d : D} {m : Mem} {xs : List Str} (h : listD d m = some (xs.map D.str)) (hl : xs.length < 4095) : biLenSet d m = .ok (.int (ddS xs).length, m) := by
  unfold biLenSet setD
  rw [h]
  dsimp only
  rw [strsD_map]
  dsimp only
  rw [if_pos hl]
/-- a walk over values; E: what holds, by what is left -/
theorem forL_rest {α : Type} {t : Tgt} {b : SS} {c : Cxt} {all : List D} {g : α → D} {E : List α → EnvD → Mem → Prop}
    (hs : ∀ x rest ρ m, E (x :: rest) ρ m → ∃ ρ1 ρ2 m2, asgD t (g x) ρ = some ρ1 ∧ (b c ρ1 m = .ok (.nx ρ2, m2) ∨ b c ρ1 m = .ok (.cnt ρ2, m2)) ∧ E rest ρ2 m2) :
    ∀ {xs : List α} {ρ : EnvD} {m : Mem}, E xs ρ m → ∃ ρ' m', forL t b c none all (xs.map g) ρ m = .ok (.nx ρ', m') ∧ E [] ρ' m'
  | [], ρ, m, h => ⟨ρ, m, rfl, h⟩
  | x :: xs, ρ, m, h => by
    obtain ⟨ρ1, ρ2, m2, h1, h2, h3⟩ := hs x xs ρ m h
    obtain ⟨ρ', m', h4, h5⟩ := forL_rest hs h3
    refine ⟨ρ', m', ?_, h5⟩
    rw [List.map_cons, forL]
    show (if true then _ else _) = _
    rw [if_pos rfl, h1]
    dsimp only
    rcases h2 with h2 | h2
    · rw [h2]
      exact h4
    · rw [h2]
      exact h4
/-- a walk with two ends: it answers, or goes on -/
theorem forL_ret {α : Type} {t : Tgt} {b : SS} {c : Cxt} {all : List D} {g : α → D} {E : List α → EnvD → Mem → Prop} {F : D → Mem → Prop}
    (hs : ∀ x rest ρ m, E (x :: rest) ρ m → ∃ ρ1, asgD t (g x) ρ = some ρ1 ∧ ((∃ ρ2 m2, b c ρ1 m = .ok (.nx ρ2, m2) ∧ E rest ρ2 m2) ∨ ∃ d m2, b c ρ1 m = .ok (.ret d, m2) ∧ F d m2)) :
    ∀ {xs : List α} {ρ : EnvD} {m : Mem}, E xs ρ m → (∃ ρ' m', forL t b c none all (xs.map g) ρ m = .ok (.nx ρ', m') ∧ E [] ρ' m') ∨ ∃ d m', forL t b c none all (xs.map g) ρ m = .ok (.ret d, m') ∧ F d m'
  | [], ρ, m, h => .inl ⟨ρ, m, rfl, h⟩
  | x :: xs, ρ, m, h => by
    obtain ⟨ρ1, h1, h2⟩ := hs x xs ρ m h
    have e : forL t b c none all ((x :: xs).map g) ρ m = (b c ρ1 m).bind fun y => match y.1 with
      | .nx ρ' => forL t b c none all (xs.map g) ρ' y.2
      | .cnt ρ' => forL t b c none all (xs.map g) ρ' y.2
      | .brk ρ' => .ok (.nx ρ', y.2)
      | .ret d => .ok (.ret d, y.2) := by
      rw [List.map_cons, forL]
      show (if true then _ else _) = _
      rw [if_pos rfl, h1]
      try rfl
    rw [e]
    rcases h2 with ⟨ρ2, m2, h2, h3⟩ | ⟨d, m2, h2, h3⟩
    · rw [h2]
      exact forL_ret hs h3
    · rw [h2]
      exact .inr ⟨d, m2, rfl, h3⟩
end Fp

set_option maxHeartbeats 4000000
/-! Fx: walks over range(len(xs)) -/
namespace Fp
open PySem L2
theorem upto_from (lo : Int) : ∀ (n i : Nat), (List.range' i n).map (fun (k : Nat) => D.int (lo + (k : Int))) = upto (lo + i) n
  | 0, i => rfl
  | n + 1, i => by
    rw [List.range'_succ, List.map_cons, upto_from lo n (i + 1)]
    unfold upto
    rw [List.range_succ_eq_map, List.map_cons, List.map_map]
    congr 1
    · simp
    · refine List.map_congr_left fun k _ => ?_
      simp only [Function.comp]
      congr 1
      omega
theorem forL_ix {α : Type} {t : Tgt} {b : SS} {c : Cxt} {all : List D} {xs : List α} {E : List α → EnvD → Mem → Prop}
    (hs : ∀ pre x rest ρ m, xs = pre ++ x :: rest → E pre ρ m → ∃ ρ1 ρ2 m2, asgD t (.int (pre.length : Int)) ρ = some ρ1 ∧ (b c ρ1 m = .ok (.nx ρ2, m2) ∨ b c ρ1 m = .ok (.cnt ρ2, m2)) ∧ E (pre ++ [x]) ρ2 m2)
    {ρ : EnvD} {m : Mem} (h : E [] ρ m) : ∃ ρ' m', forL t b c none all (upto 0 xs.length) ρ m = .ok (.nx ρ', m') ∧ E xs ρ' m' := by
  have e : upto 0 xs.length = (List.range' 0 xs.length).map (fun (k : Nat) => D.int (k : Int)) := by
    have := upto_from 0 xs.length 0
    rw [show ((0 : Int) + ((0 : Nat) : Int)) = 0 from rfl] at this
    rw [← this]
    refine List.map_congr_left fun k _ => ?_
    rw [Int.zero_add]
  rw [e]
  have go := forL_rest (t := t) (b := b) (c := c) (all := all) (g := fun (k : Nat) => D.int (k : Int)) (E := fun rest ρ m => ∃ pre post, xs = pre ++ post ∧ rest = List.range' pre.length post.length ∧ E pre ρ m)
    (fun k rest ρ m hE => by
      obtain ⟨pre, post, e1, e2, hE⟩ := hE
      cases post with
      | nil => cases e2
      | cons x post =>
        rw [List.length_cons, List.range'_succ] at e2
        cases e2
        obtain ⟨ρ1, ρ2, m2, h1, h2, h3⟩ := hs pre x post ρ m e1 hE
        refine ⟨ρ1, ρ2, m2, h1, h2, pre ++ [x], post, by rw [e1]; simp, ?_, h3⟩
        rw [List.length_append]
        rfl)
    (xs := List.range' 0 xs.length) (ρ := ρ) (m := m) ⟨[], xs, rfl, rfl, h⟩
  obtain ⟨ρ', m', h1, pre, post, e1, e2, h2⟩ := go
  refine ⟨ρ', m', h1, ?_⟩
  cases post with
  | nil => rw [List.append_nil] at e1; rw [e1]; exact h2
  | cons x post => cases e2
end Fp

set_option maxHeartbeats 4000000
/-! Fy: == of texts, numbers, tuples and lists -/
namespace Fp
open PySem L2
mutual
/-- texts, numbers, tuples and lists of these, at most n deep -/
def plD (n : Nat) : D → Bool
  | .non => true
  | .int _ => true
  | .str x => PyData.strOk x
  | .tup ds => match n with | 0 => false | n + 1 => plDs n ds
  | .lst ds => match n with | 0 => false | n + 1 => plDs n ds
  | .bl _ => false
  | .dct _ _ => false
  | .scr _ => false
  | .ref _ => false
def plDs (n : Nat) : List D → Bool
  | [] => true
  | d :: ds => plD n d && plDs n ds
end
mutual
theorem pl_py : ∀ {d : D} {n : Nat}, plD n d = true → ∃ p, pyD d = some p ∧ PyData.canLay0 p = true ∧ PyData.depth p ≤ n
  | .non, n, _ => ⟨.none, rfl, by simp only [PyData.canLay0], by simp [PyData.depth]⟩
  | .int i, n, _ => ⟨.int i, rfl, by simp only [PyData.canLay0], by simp [PyData.depth]⟩
  | .str x, n, h => ⟨.str x, rfl, by rw [plD] at h; simpa only [PyData.canLay0] using h, by simp [PyData.depth]⟩
  | .tup ds, 0, h => by simp [plD] at h
  | .tup ds, n + 1, h => by
    rw [plD] at h
    obtain ⟨ps, h1, h2, h3⟩ := pls_py (n := n) h
    exact ⟨.tuple ps, by rw [pyD, h1]; rfl, by simpa only [PyData.canLay0] using h2, by simp only [PyData.depth]; omega⟩
  | .lst ds, 0, h => by simp [plD] at h
  | .lst ds, n + 1, h => by
    rw [plD] at h
    obtain ⟨ps, h1, h2, h3⟩ := pls_py (n := n) h
    exact ⟨.list ps, by rw [pyD, h1]; rfl, by simpa only [PyData.canLay0] using h2, by simp only [PyData.depth]; omega⟩
  | .bl _, n, h => by simp [plD] at h
  | .dct _ _, n, h => by simp [plD] at h
  | .scr _, n, h => by simp [plD] at h
  | .ref _, n, h => by simp [plD] at h
theorem pls_py : ∀ {ds : List D} {n : Nat}, plDs n ds = true → ∃ ps, pyDs ds = some ps ∧ PyData.canLayAll0 ps = true ∧ PyData.depthAll ps ≤ n
  | [], n, _ => ⟨[], rfl, by simp only [PyData.canLayAll0], by simp [PyData.depthAll]⟩
  | d :: ds, n, h => by
    rw [plDs, Bool.and_eq_true] at h
    obtain ⟨p, h1, h2, h3⟩ := pl_py h.1
    obtain ⟨ps, h4, h5, h6⟩ := pls_py h.2
    exact ⟨p :: ps, by rw [pyDs, h1, h4], by simp only [PyData.canLayAll0, h2, h5, Bool.and_true], by simp only [PyData.depthAll]; omega⟩
end
mutual
theorem pl_eqv : ∀ {d e : D} {n k : Nat} {p q : PyData}, plD n d = true → plD k e = true → pyD d = some p → pyD e = some q → PyData.eqv p q = eqDb d e
  | .bl _, _, n, _, _, _, h, _, _, _ => by simp [plD] at h
  | .dct _ _, _, n, _, _, _, h, _, _, _ => by simp [plD] at h
  | .scr _, _, n, _, _, _, h, _, _, _ => by simp [plD] at h
  | .ref _, _, n, _, _, _, h, _, _, _ => by simp [plD] at h
  | .tup ds, e, 0, k, p, q, h, _, _, _ => by simp [plD] at h
  | .lst ds, e, 0, k, p, q, h, _, _, _ => by simp [plD] at h
  | .non, e, n, k, p, q, h, h', e1, e2 => by
    cases e1
    cases e with
    | bl _ => simp [plD] at h'
    | dct _ _ => simp [plD] at h'
    | scr _ => simp [plD] at h'
    | ref _ => simp [plD] at h'
    | tup es => rw [pyD] at e2; cases z : pyDs es <;> rw [z] at e2 <;> cases e2; rfl
    | lst es => rw [pyD] at e2; cases z : pyDs es <;> rw [z] at e2 <;> cases e2; rfl
    | _ => cases e2; rfl
  | .int i, e, n, k, p, q, h, h', e1, e2 => by
    cases e1
    cases e with
    | bl _ => simp [plD] at h'
    | dct _ _ => simp [plD] at h'
    | scr _ => simp [plD] at h'
    | ref _ => simp [plD] at h'
    | tup es => rw [pyD] at e2; cases z : pyDs es <;> rw [z] at e2 <;> cases e2; rfl
    | lst es => rw [pyD] at e2; cases z : pyDs es <;> rw [z] at e2 <;> cases e2; rfl
    | _ => cases e2; rfl
  | .str x, e, n, k, p, q, h, h', e1, e2 => by
    cases e1
    cases e with
    | bl _ => simp [plD] at h'
    | dct _ _ => simp [plD] at h'
    | scr _ => simp [plD] at h'
    | ref _ => simp [plD] at h'
    | tup es => rw [pyD] at e2; cases z : pyDs es <;> rw [z] at e2 <;> cases e2; rfl
    | lst es => rw [pyD] at e2; cases z : pyDs es <;> rw [z] at e2 <;> cases e2; rfl
    | _ => cases e2; rfl
  | .tup ds, e, n + 1, k, p, q, h, h', e1, e2 => by
    rw [plD] at h
    rw [pyD] at e1
    cases z : pyDs ds <;> rw [z] at e1 <;> cases e1
    rename_i ps
    cases e with
    | bl _ => simp [plD] at h'
    | dct _ _ => simp [plD] at h'
    | scr _ => simp [plD] at h'
    | ref _ => simp [plD] at h'
    | tup es =>
      rw [pyD] at e2
      cases z' : pyDs es <;> rw [z'] at e2 <;> cases e2
      cases k with
      | zero => simp [plD] at h'
      | succ k =>
        rw [plD] at h'
        simp only [PyData.eqv, eqDb]
        exact pls_eqv (n := n) (k := k) h h' z z'
    | lst es => rw [pyD] at e2; cases z : pyDs es <;> rw [z] at e2 <;> cases e2; rfl
    | _ => cases e2; rfl
  | .lst ds, e, n + 1, k, p, q, h, h', e1, e2 => by
    rw [plD] at h
    rw [pyD] at e1
    cases z : pyDs ds <;> rw [z] at e1 <;> cases e1
    rename_i ps
    cases e with
    | bl _ => simp [plD] at h'
    | dct _ _ => simp [plD] at h'
    | scr _ => simp [plD] at h'
    | ref _ => simp [plD] at h'
    | lst es =>
      rw [pyD] at e2
      cases z' : pyDs es <;> rw [z'] at e2 <;> cases e2
      cases k with
      | zero => simp [plD] at h'
      | succ k =>
        rw [plD] at h'
        simp only [PyData.eqv, eqDb]
        exact pls_eqv (n := n) (k := k) h h' z z'
    | tup es => rw [pyD] at e2; cases z : pyDs es <;> rw [z] at e2 <;> cases e2; rfl
    | _ => cases e2; rfl
theorem pls_eqv : ∀ {ds es : List D} {n k : Nat} {ps qs : List PyData}, plDs n ds = true → plDs k es = true → pyDs ds = some ps → pyDs es = some qs → PyData.eqvAll ps qs = eqDs ds es
  | [], [], _, _, _, _, _, _, e1, e2 => by cases e1; cases e2; rfl
  | [], e :: es, n, k, ps, qs, _, h', e1, e2 => by
    cases e1
    rw [plDs, Bool.and_eq_true] at h'
    obtain ⟨q, h1, _⟩ := pl_py h'.1
    obtain ⟨qs', h2, _⟩ := pls_py h'.2
    rw [pyDs, h1, h2] at e2
    cases e2
    rfl
  | d :: ds, [], n, k, ps, qs, h, _, e1, e2 => by
    cases e2
    rw [plDs, Bool.and_eq_true] at h
    obtain ⟨q, h1, _⟩ := pl_py h.1
    obtain ⟨qs', h2, _⟩ := pls_py h.2
    rw [pyDs, h1, h2] at e1
    cases e1
    rfl
  | d :: ds, e :: es, n, k, ps, qs, h, h', e1, e2 => by
    rw [plDs, Bool.and_eq_true] at h h'
    obtain ⟨p, h1, _⟩ := pl_py h.1
    obtain ⟨ps', h2, _⟩ := pls_py h.2
    obtain ⟨q, h3, _⟩ := pl_py h'.1
    obtain ⟨qs', h4, _⟩ := pls_py h'.2
    rw [pyDs, h1, h2] at e1
    rw [pyDs, h3, h4] at e2
    cases e1
    cases e2
    simp only [PyData.eqvAll, eqDs]
    rw [pl_eqv h.1 h'.1 h1 h3, pls_eqv h.2 h'.2 h2 h4]
end
mutual
theorem pl_mono : ∀ {d : D} {n k : Nat}, n ≤ k → plD n d = true → plD k d = true
  | .non, _, _, _, _ => rfl
  | .int _, _, _, _, _ => rfl
  | .str _, _, _, _, h => h
  | .bl _, n, _, _, h => by simp [plD] at h
  | .dct _ _, n, _, _, h => by simp [plD] at h
  | .scr _, n, _, _, h => by simp [plD] at h
  | .ref _, n, _, _, h => by simp [plD] at h
  | .tup ds, 0, _, _, h => by simp [plD] at h
  | .lst ds, 0, _, _, h => by simp [plD] at h
  | .tup ds, n + 1, k, l, h => by
    obtain ⟨k, rfl⟩ : ∃ j, k = j + 1 := ⟨k - 1, by omega⟩
    rw [plD] at h ⊢
    exact pls_mono (n := n) (k := k) (by omega) h
  | .lst ds, n + 1, k, l, h => by
    obtain ⟨k, rfl⟩ : ∃ j, k = j + 1 := ⟨k - 1, by omega⟩
    rw [plD] at h ⊢
    exact pls_mono (n := n) (k := k) (by omega) h
theorem pls_mono : ∀ {ds : List D} {n k : Nat}, n ≤ k → plDs n ds = true → plDs k ds = true
  | [], _, _, _, _ => rfl
  | d :: ds, n, k, l, h => by
    rw [plDs, Bool.and_eq_true] at h ⊢
    exact ⟨pl_mono l h.1, pls_mono l h.2⟩
end
theorem pls_all {n : Nat} : ∀ {ds : List D}, (∀ d ∈ ds, plD n d = true) → plDs n ds = true
  | [], _ => rfl
  | d :: ds, h => by rw [plDs, h d List.mem_cons_self, pls_all fun e he => h e (List.mem_cons_of_mem _ he)]; rfl
theorem eqDb_iff {d e : D} : eqDb d e = true ↔ d = e := ⟨eqDb_eq, fun h => h ▸ eqDb_refl d⟩
theorem pyM_pl {d : D} {n : Nat} {m : Mem} (h : plD n d = true) : pyM d m = pyD d := by
  cases d with
  | ref _ => simp [plD] at h
  | _ => rfl
theorem eqD_of {d e d' e' : D} {m : Mem} (h1 : plD 64 d' = true) (h2 : plD 64 e' = true) (e1 : pyM d m = pyD d') (e2 : pyM e m = pyD e') : eqD d e m = some (eqDb d' e') := by
  obtain ⟨p, a1, a2, a3⟩ := pl_py h1
  obtain ⟨q, b1, b2, b3⟩ := pl_py h2
  unfold eqD
  rw [e1, e2, a1, b1]
  dsimp only
  have s1 : shp p = true := by
    show (PyData.canLay0 p && decide (PyData.depth p ≤ 64)) = true
    rw [a2, decide_eq_true a3]
    rfl
  have s2 : shp q = true := by
    show (PyData.canLay0 q && decide (PyData.depth q ≤ 64)) = true
    rw [b2, decide_eq_true b3]
    rfl
  rw [if_pos ⟨s1, s2⟩, pl_eqv h1 h2 a1 b1]
theorem eqD_pl {d e : D} {m : Mem} (h1 : plD 64 d = true) (h2 : plD 64 e = true) : eqD d e m = some (eqDb d e) := eqD_of h1 h2 (pyM_pl h1) (pyM_pl h2)
theorem cpEq_pl {d e : D} {m : Mem} (h1 : plD 64 d = true) (h2 : plD 64 e = true) : cpEq d e m = some (eqDb d e) := eqD_pl h1 h2
theorem cpNe_pl {d e : D} {m : Mem} (h1 : plD 64 d = true) (h2 : plD 64 e = true) : cpNe d e m = some (!eqDb d e) := by
  unfold cpNe
  rw [eqD_pl h1 h2]
  rfl
/-- a list of the memory against a written one -/
theorem cpNe_ref {n : Nat} {m : Mem} {ds es : List D} (h : m[n]? = some (.lst ds)) (h1 : plD 64 (.lst ds) = true) (h2 : plD 64 (.lst es) = true) : cpNe (.ref n) (.lst es) m = some (!eqDs ds es) := by
  unfold cpNe
  rw [eqD_of h1 h2 (by unfold pyM; simp only [h]; rfl) (pyM_pl h2)]
  rfl
theorem eqDs_nil {ds : List D} : eqDs ds [] = ds.isEmpty := by cases ds <;> rfl
/-! [x for xs in .. for x in xs] -/
theorem flat_ones {α : Type} (f : α → D) : ∀ xs : List α, (xs.map fun x => [f x]).flatten = xs.map f
  | [] => rfl
  | x :: xs => by rw [List.map_cons, List.flatten_cons, flat_ones f xs]; rfl
theorem comp2_flat {c : Cxt} {ρ : EnvD} {i j : Nat} {all : List D} {m : Mem} {yss : List (List D)} (hi : i < ρ.length) (hj : j < ρ.length) (hij : i ≠ j) :
    compL (compTurn2 (.nm i) (siSeq (sVar i)) [j] (.nm j) stYes (sVar j) c (wipeD ρ [i, j])) none all (yss.map D.tup) m = .ok (yss.flatten, m) := by
  have h := compL_run (f := compTurn2 (.nm i) (siSeq (sVar i)) [j] (.nm j) stYes (sVar j) c (wipeD ρ [i, j])) (all := all) (g := D.tup) (r := fun ys => ys) (m := m) (xs := yss) (fun ys _ => by
    have e1 : sVar i c (((wipeD ρ [i, j])).set i (some (D.tup ys))) m = .ok (.tup ys, m) := by
      unfold sVar
      rw [List.getElem?_set_self (by simp only [wipeD, List.length_set]; exact hi)]
    unfold compTurn2
    simp only [asgD, ev, e1, R.bind_ok]
    have h2 := compL_run (f := compTurn (.nm j) stYes (sVar j) c (wipeD ((wipeD ρ [i, j]).set i (some (D.tup ys))) [j])) (all := ys) (g := fun d => d) (r := fun d => [d]) (m := m) (xs := ys) (fun d _ => by
      unfold compTurn
      have e2 : sVar j c ((wipeD ((wipeD ρ [i, j]).set i (some (D.tup ys))) [j]).set j (some d)) m = .ok (d, m) := by
        unfold sVar
        rw [List.getElem?_set_self (by simp only [wipeD, List.length_set]; exact hj)]
      simp only [asgD, ev, R.bind_ok, e2]
      rfl)
    rw [List.map_id'] at h2
    rw [h2]
    rw [flat_ones fun d : D => d, List.map_id'])
  rw [h, List.map_id']
/-- [f x for x in ds] -/
theorem comp_map {α : Type} {c : Cxt} {ρ : EnvD} {i : Nat} {all : List D} {m : Mem} {e : SE} {g f : α → D} {xs : List α} (h : ∀ x ∈ xs, e c ((ρ.set i none).set i (some (g x))) m = .ok (f x, m)) :
    compL (compTurn (.nm i) stYes e c (wipeD ρ [i])) none all (xs.map g) m = .ok (xs.map f, m) := by
  have h := compL_run (f := compTurn (.nm i) stYes e c (wipeD ρ [i])) (all := all) (g := g) (r := fun x => [f x]) (m := m) (xs := xs) (fun x hx => by
    unfold compTurn
    simp only [asgD, wipeD, ev, R.bind_ok, h x hx]
    rfl)
  rw [h, flat_ones f]
/-- R.bind_ok, but not by rfl: the kernel then never goes into what stands behind -/
theorem evb {α β : Type} (a : α) (f : α → R β) : R.bind (.ok a) f = f a := by
  have h : ∀ r, r = R.ok a → R.bind r f = f a := by
    rintro r rfl
    rfl
  exact h _ rfl
/-! range(n) -/
theorem ran_ok {a : SA} {c : Cxt} {ρ : EnvD} {m m' : Mem} {k : Nat} (ha : a c ρ m = .ok ([.int (k : Int)], m')) (hk : k ≤ 100000) : siRange1 a c ρ m = .ok ((upto 0 k, none), m') := by
  unfold siRange1
  rw [ha, R.bind_ok]
  dsimp only
  rw [if_pos (by unfold smallI; rw [Bool.and_eq_true]; exact ⟨decide_eq_true (by omega), decide_eq_true (by omega)⟩), Int.toNat_natCast]
/-! more names for what comes behind -/
def kComp2 (al : Bool) (t : Tgt) (own : List Nat) (it1 : SI) (own1 : List Nat) (t1 : Tgt) (tt1 : ST) (e : SE) (c : Cxt) (ρ : EnvD) (x : (List D × Option Nat) × Mem) : RD :=
  (compL (compTurn2 t it1 own1 t1 tt1 e c (wipeD ρ own)) x.1.2 x.1.1 x.1.1 x.2).bind (kMk al)
theorem ev2 :
    (∀ al it t own it1 own1 t1 tt1 e c ρ m, sComp2 al it t own it1 own1 t1 tt1 e c ρ m = (it c ρ m).bind (kComp2 al t own it1 own1 t1 tt1 e c ρ)) ∧
    (∀ al t own it1 own1 t1 tt1 e c ρ ds src m, kComp2 al t own it1 own1 t1 tt1 e c ρ ((ds, src), m) = (compL (compTurn2 t it1 own1 t1 tt1 e c (wipeD ρ own)) src ds ds m).bind (kMk al)) ∧
    (∀ b ds m, biList b (.tup ds) m = mkL b ds m) ∧
    (∀ b ds m, biList b (.lst ds) m = mkL b ds m) ∧
    (∀ ds m, opRev (.lst ds) m = .ok (.lst ds.reverse, m)) ∧
    (∀ t b c ρ m, ssWhile t b c ρ m = whileL t b c c.fuel ρ m) ∧
    (∀ al c ρ m, sEmpD al c ρ m = mkD al [] m) :=
  ⟨fun _ _ _ _ _ _ _ _ _ _ _ _ => rfl, fun _ _ _ _ _ _ _ _ _ _ _ _ _ => rfl, fun _ _ _ => rfl, fun _ _ _ => rfl, fun _ _ => rfl, fun _ _ _ _ _ => rfl, fun _ _ _ _ => rfl⟩
theorem kSeq_ref {n : Nat} {m : Mem} {ds : List D} (h : m[n]? = some (.lst ds)) : kSeq (.ref n, m) = .ok ((ds, some n), m) := by
  unfold kSeq
  simp only [h]
theorem stands_ref {n : Nat} {m : Mem} {ds : List D} (h : m[n]? = some (.lst ds)) : standsB (some n) ds m = true := by
  unfold standsB
  simp only [h]
  exact eqDs_refl ds
/-- a comprehension whose turns leave the memory alone, over what stands -/
theorem compL_same {f : D → Mem → R (List D × Mem)} {src : Option Nat} {all : List D} {m : Mem} (hs : standsB src all m = true) :
    ∀ {ds : List D}, (∀ d ∈ ds, ∃ r, f d m = .ok (r, m)) → compL f src all ds m = compL f none all ds m
  | [], _ => by
    rw [compL, compL, hs]
    rfl
  | d :: ds, h => by
    rw [compL, compL, hs]
    obtain ⟨r, hr⟩ := h d List.mem_cons_self
    show (if true then _ else _) = (if true then _ else _)
    rw [if_pos rfl, if_pos rfl, hr, R.bind_ok, R.bind_ok]
    dsimp only
    rw [compL_same hs fun e he => h e (List.mem_cons_of_mem _ he)]
theorem comp_map_src {α : Type} {c : Cxt} {ρ : EnvD} {i : Nat} {src : Option Nat} {all : List D} {m : Mem} {e : SE} {g f : α → D} {xs : List α} (hs : standsB src all m = true)
    (h : ∀ x ∈ xs, e c ((ρ.set i none).set i (some (g x))) m = .ok (f x, m)) : compL (compTurn (.nm i) stYes e c (wipeD ρ [i])) src all (xs.map g) m = .ok (xs.map f, m) := by
  rw [compL_same hs, comp_map h]
  intro d hd
  obtain ⟨x, hx, rfl⟩ := List.mem_map.mp hd
  refine ⟨[f x], ?_⟩
  unfold compTurn
  simp only [asgD, wipeD, ev, R.bind_ok, h x hx]
  rfl
end Fp

set_option maxHeartbeats 0
namespace K05
open PySem PySem.Spec PyProof.Rows L2 Fp
def top (i : Nat) : Stmt := PySem.Challenge.pw_writtenahead_k05_whole_names_never_catch.main.body.getD i (.Pass ⟨0, 0, 0, 0⟩)
def d_parts_of : Df := ⟨"parts_of", defArgs (top 2), defBody (top 2), defScope (top 2), ["term", "word"], ["term"], []⟩
def d_with_parts : Df := ⟨"with_parts", defArgs (top 3), defBody (top 3), defScope (top 3), ["term", "parts", "word"], ["term", "parts"], []⟩
def d_binds_in : Df := ⟨"binds_in", defArgs (top 4), defBody (top 4), defScope (top 4), ["term", "word"], ["term"], []⟩
def d_with_names : Df := ⟨"with_names", defArgs (top 5), defBody (top 5), defScope (top 5), ["term", "names"], ["term", "names"], []⟩
def d_all_within : Df := ⟨"all_within", defArgs (top 6), defBody (top 6), defScope (top 6), ["term", "found", "waiting", "own"], ["term"], [(35, 22), (35, 26)]⟩
def d_names_in : Df := ⟨"names_in", defArgs (top 7), defBody (top 7), defScope (top 7), ["term", "found", "own", "names", "name"], ["term"], [(42, 12)]⟩
def d_free_in : Df := ⟨"free_in", defArgs (top 8), defBody (top 8), defScope (top 8), ["term", "found", "own", "names", "name"], ["term"], [(50, 12)]⟩
def d_worked : Df := ⟨"worked", defArgs (top 9), defBody (top 9), defScope (top 9), ["sign", "a", "b"], ["sign", "a", "b"], []⟩
def d_word_of : Df := ⟨"word_of", defArgs (top 11), defBody (top 11), defScope (top 11), ["k", "found"], ["k"], []⟩
def d_fresh_name : Df := ⟨"fresh_name", defArgs (top 12), defBody (top 12), defScope (top 12), ["taken", "k"], ["taken"], []⟩
def d_renamed : Df := ⟨"renamed", defArgs (top 13), defBody (top 13), defScope (top 13), ["term", "names", "name"], ["term", "names"], []⟩
def d_replaced : Df := ⟨"replaced", defArgs (top 14), defBody (top 14), defScope (top 14), ["term", "name", "own", "parts", "part", "names"], ["term", "name", "own"], [(88, 12)]⟩
def d_apart_from : Df := ⟨"apart_from", defArgs (top 15), defBody (top 15), defScope (top 15), ["term", "taken", "bound", "name", "names", "new"], ["term", "taken"], []⟩
def d_with_bound : Df := ⟨"with_bound", defArgs (top 16), defBody (top 16), defScope (top 16), ["term", "name", "new", "parts", "bound", "part", "names", "own"], ["term", "name", "new"], [(100, 20), (100, 24)]⟩
def d_marked : Df := ⟨"marked", defArgs (top 17), defBody (top 17), defScope (top 17), ["term", "names", "deep", "own", "parts", "heads", "part", "bound", "more"], ["term", "names", "deep"], [(108, 20), (108, 24), (110, 15)]⟩
def d_same_terms : Df := ⟨"same_terms", defArgs (top 18), defBody (top 18), defScope (top 18), ["one", "other"], ["one", "other"], []⟩
def d_tidy : Df := ⟨"tidy", defArgs (top 19), defBody (top 19), defScope (top 19), ["term"], ["term"], [(119, 29)]⟩
def d_ordered : Df := ⟨"ordered", defArgs (top 20), defBody (top 20), defScope (top 20), ["term", "names", "count", "taken", "found", "parts", "bound", "part", "own", "more", "name"], ["term", "names", "count", "taken"], [(123, 20), (123, 24), (125, 15)]⟩
def d_next_name : Df := ⟨"next_name", defArgs (top 21), defBody (top 21), defScope (top 21), ["count", "taken"], ["count", "taken"], []⟩
def d_is_apart : Df := ⟨"is_apart", defArgs (top 22), defBody (top 22), defScope (top 22), ["term", "names", "name"], ["term"], []⟩
def d_bound_in : Df := ⟨"bound_in", defArgs (top 23), defBody (top 23), defScope (top 23), ["term", "found", "part", "names"], ["term"], [(141, 12)]⟩
def d_can_step : Df := ⟨"can_step", defArgs (top 29), defBody (top 29), defScope (top 29), ["term", "word"], ["term"], []⟩
def d_stepped : Df := ⟨"stepped", defArgs (top 30), defBody (top 30), defScope (top 30), ["term", "word"], ["term"], []⟩
def d_folded : Df := ⟨"folded", defArgs (top 31), defBody (top 31), defScope (top 31), ["term", "own", "head", "rest"], ["term"], []⟩
def d_looped : Df := ⟨"looped", defArgs (top 32), defBody (top 32), defScope (top 32), ["term"], ["term"], []⟩
def d__law_draws : Df := ⟨"_law_draws", defArgs (top 34), defBody (top 34), defScope (top 34), ["script", "many", "draws", "mixed", "k", "cell", "rest", "turn"], ["script", "many"], [(190, 12)]⟩
def d__law_next : Df := ⟨"_law_next", defArgs (top 35), defBody (top 35), defScope (top 35), ["w", "many"], ["w", "many"], []⟩
def d__law_pick : Df := ⟨"_law_pick", defArgs (top 36), defBody (top 36), defScope (top 36), ["w", "rows"], ["w", "rows"], []⟩
def d__law_parts : Df := ⟨"_law_parts", defArgs (top 37), defBody (top 37), defScope (top 37), ["term", "word"], ["term"], []⟩
def d__law_binds : Df := ⟨"_law_binds", defArgs (top 38), defBody (top 38), defScope (top 38), ["term", "names", "word", "many"], ["term"], []⟩
def d__law_within : Df := ⟨"_law_within", defArgs (top 39), defBody (top 39), defScope (top 39), ["term", "found", "own"], ["term"], []⟩
def d__law_ways : Df := ⟨"_law_ways", defArgs (top 40), defBody (top 40), defScope (top 40), ["term", "k", "found", "parts", "way"], ["term"], []⟩
def d__law_free : Df := ⟨"_law_free", defArgs (top 41), defBody (top 41), defScope (top 41), ["term", "k", "found", "parts", "binds", "name"], ["term"], []⟩
def d__law_bare : Df := ⟨"_law_bare", defArgs (top 42), defBody (top 42), defScope (top 42), ["term", "names", "own", "places", "parts", "binds", "k", "bound"], ["term", "names"], []⟩
def d__law_alike : Df := ⟨"_law_alike", defArgs (top 43), defBody (top 43), defScope (top 43), ["one", "other"], ["one", "other"], []⟩
def d__law_wild : Df := ⟨"_law_wild", defArgs (top 44), defBody (top 44), defScope (top 44), ["w", "deep", "kind", "name"], ["w", "deep"], []⟩
def d__law_put : Df := ⟨"_law_put", defArgs (top 45), defBody (top 45), defScope (top 45), ["bare", "name", "own", "deep", "part"], ["bare", "name", "own", "deep"], []⟩
def d__law_bound : Df := ⟨"_law_bound", defArgs (top 46), defBody (top 46), defScope (top 46), ["term", "k", "found", "parts", "binds"], ["term"], []⟩
def d_law : Df := ⟨"law", defArgs (top 47), defBody (top 47), defScope (top 47), ["script", "w", "turn", "first", "name", "found", "new", "bound", "given", "term", "own", "other", "one"], ["script"], [(276, 8)]⟩
def T : Tb := ⟨[d_parts_of, d_with_parts, d_binds_in, d_with_names, d_all_within, d_names_in, d_free_in, d_worked, d_word_of, d_fresh_name, d_renamed, d_replaced, d_apart_from, d_with_bound, d_marked, d_same_terms, d_tidy, d_ordered, d_next_name, d_is_apart, d_bound_in, d_can_step, d_stepped, d_folded, d_looped, d__law_draws, d__law_next, d__law_pick, d__law_parts, d__law_binds, d__law_within, d__law_ways, d__law_free, d__law_bare, d__law_alike, d__law_wild, d__law_put, d__law_bound, d_law], ["len", "tuple", "list", "dict", "int", "abs", "min", "max", "any", "sorted", "set", "zip", "range"], [("LETTERS", "abcdefghijklmnopqrstuvwxyz")], [("NEEDS", [("app", .tup [.str "fun"]), ("if", .tup [.str "num"]), ("first", .tup [.str "pair"]), ("second", .tup [.str "pair"]), ("fold", .tup [.str "nil", .str "cons"]), ("loop", .tup [.str "num"]), ("splice", .tup [.str "quote"]), ("lift", .tup [.str "num"])])], 40⟩
section
theorem b_parts_of : BindOk d_parts_of := fun _ _ _ _ _ _ us hl => match us, hl with | [_], _ => rfl
theorem s_parts_of : FnScope d_parts_of.N d_parts_of.ps d_parts_of.scope := ⟨rfl, rfl, rfl, by decide +kernel, rfl, by decide +kernel, by decide +kernel⟩
theorem b_with_parts : BindOk d_with_parts := fun _ _ _ _ _ _ us hl => match us, hl with | [_, _], _ => rfl
theorem s_with_parts : FnScope d_with_parts.N d_with_parts.ps d_with_parts.scope := ⟨rfl, rfl, rfl, by decide +kernel, rfl, by decide +kernel, by decide +kernel⟩
theorem b_binds_in : BindOk d_binds_in := fun _ _ _ _ _ _ us hl => match us, hl with | [_], _ => rfl
theorem s_binds_in : FnScope d_binds_in.N d_binds_in.ps d_binds_in.scope := ⟨rfl, rfl, rfl, by decide +kernel, rfl, by decide +kernel, by decide +kernel⟩
theorem b_with_names : BindOk d_with_names := fun _ _ _ _ _ _ us hl => match us, hl with | [_, _], _ => rfl
theorem s_with_names : FnScope d_with_names.N d_with_names.ps d_with_names.scope := ⟨rfl, rfl, rfl, by decide +kernel, rfl, by decide +kernel, by decide +kernel⟩
theorem b_all_within : BindOk d_all_within := fun _ _ _ _ _ _ us hl => match us, hl with | [_], _ => rfl
theorem s_all_within : FnScope d_all_within.N d_all_within.ps d_all_within.scope := ⟨rfl, rfl, rfl, by decide +kernel, rfl, by decide +kernel, by decide +kernel⟩
theorem b_names_in : BindOk d_names_in := fun _ _ _ _ _ _ us hl => match us, hl with | [_], _ => rfl
theorem s_names_in : FnScope d_names_in.N d_names_in.ps d_names_in.scope := ⟨rfl, rfl, rfl, by decide +kernel, rfl, by decide +kernel, by decide +kernel⟩
theorem b_free_in : BindOk d_free_in := fun _ _ _ _ _ _ us hl => match us, hl with | [_], _ => rfl
theorem s_free_in : FnScope d_free_in.N d_free_in.ps d_free_in.scope := ⟨rfl, rfl, rfl, by decide +kernel, rfl, by decide +kernel, by decide +kernel⟩
theorem b_worked : BindOk d_worked := fun _ _ _ _ _ _ us hl => match us, hl with | [_, _, _], _ => rfl
theorem s_worked : FnScope d_worked.N d_worked.ps d_worked.scope := ⟨rfl, rfl, rfl, by decide +kernel, rfl, by decide +kernel, by decide +kernel⟩
theorem b_word_of : BindOk d_word_of := fun _ _ _ _ _ _ us hl => match us, hl with | [_], _ => rfl
theorem s_word_of : FnScope d_word_of.N d_word_of.ps d_word_of.scope := ⟨rfl, rfl, rfl, by decide +kernel, rfl, by decide +kernel, by decide +kernel⟩
theorem b_fresh_name : BindOk d_fresh_name := fun _ _ _ _ _ _ us hl => match us, hl with | [_], _ => rfl
theorem s_fresh_name : FnScope d_fresh_name.N d_fresh_name.ps d_fresh_name.scope := ⟨rfl, rfl, rfl, by decide +kernel, rfl, by decide +kernel, by decide +kernel⟩
theorem b_renamed : BindOk d_renamed := fun _ _ _ _ _ _ us hl => match us, hl with | [_, _], _ => rfl
theorem s_renamed : FnScope d_renamed.N d_renamed.ps d_renamed.scope := ⟨rfl, rfl, rfl, by decide +kernel, rfl, by decide +kernel, by decide +kernel⟩
theorem b_replaced : BindOk d_replaced := fun _ _ _ _ _ _ us hl => match us, hl with | [_, _, _], _ => rfl
theorem s_replaced : FnScope d_replaced.N d_replaced.ps d_replaced.scope := ⟨rfl, rfl, rfl, by decide +kernel, rfl, by decide +kernel, by decide +kernel⟩
theorem b_apart_from : BindOk d_apart_from := fun _ _ _ _ _ _ us hl => match us, hl with | [_, _], _ => rfl
theorem s_apart_from : FnScope d_apart_from.N d_apart_from.ps d_apart_from.scope := ⟨rfl, rfl, rfl, by decide +kernel, rfl, by decide +kernel, by decide +kernel⟩
theorem b_with_bound : BindOk d_with_bound := fun _ _ _ _ _ _ us hl => match us, hl with | [_, _, _], _ => rfl
theorem s_with_bound : FnScope d_with_bound.N d_with_bound.ps d_with_bound.scope := ⟨rfl, rfl, rfl, by decide +kernel, rfl, by decide +kernel, by decide +kernel⟩
theorem b_marked : BindOk d_marked := fun _ _ _ _ _ _ us hl => match us, hl with | [_, _, _], _ => rfl
theorem s_marked : FnScope d_marked.N d_marked.ps d_marked.scope := ⟨rfl, rfl, rfl, by decide +kernel, rfl, by decide +kernel, by decide +kernel⟩
theorem b_same_terms : BindOk d_same_terms := fun _ _ _ _ _ _ us hl => match us, hl with | [_, _], _ => rfl
theorem s_same_terms : FnScope d_same_terms.N d_same_terms.ps d_same_terms.scope := ⟨rfl, rfl, rfl, by decide +kernel, rfl, by decide +kernel, by decide +kernel⟩
theorem b_tidy : BindOk d_tidy := fun _ _ _ _ _ _ us hl => match us, hl with | [_], _ => rfl
theorem s_tidy : FnScope d_tidy.N d_tidy.ps d_tidy.scope := ⟨rfl, rfl, rfl, by decide +kernel, rfl, by decide +kernel, by decide +kernel⟩
theorem b_ordered : BindOk d_ordered := fun _ _ _ _ _ _ us hl => match us, hl with | [_, _, _, _], _ => rfl
theorem s_ordered : FnScope d_ordered.N d_ordered.ps d_ordered.scope := ⟨rfl, rfl, rfl, by decide +kernel, rfl, by decide +kernel, by decide +kernel⟩
theorem b_next_name : BindOk d_next_name := fun _ _ _ _ _ _ us hl => match us, hl with | [_, _], _ => rfl
theorem s_next_name : FnScope d_next_name.N d_next_name.ps d_next_name.scope := ⟨rfl, rfl, rfl, by decide +kernel, rfl, by decide +kernel, by decide +kernel⟩
theorem b_is_apart : BindOk d_is_apart := fun _ _ _ _ _ _ us hl => match us, hl with | [_], _ => rfl
theorem s_is_apart : FnScope d_is_apart.N d_is_apart.ps d_is_apart.scope := ⟨rfl, rfl, rfl, by decide +kernel, rfl, by decide +kernel, by decide +kernel⟩
theorem b_bound_in : BindOk d_bound_in := fun _ _ _ _ _ _ us hl => match us, hl with | [_], _ => rfl
theorem s_bound_in : FnScope d_bound_in.N d_bound_in.ps d_bound_in.scope := ⟨rfl, rfl, rfl, by decide +kernel, rfl, by decide +kernel, by decide +kernel⟩
theorem b_can_step : BindOk d_can_step := fun _ _ _ _ _ _ us hl => match us, hl with | [_], _ => rfl
theorem s_can_step : FnScope d_can_step.N d_can_step.ps d_can_step.scope := ⟨rfl, rfl, rfl, by decide +kernel, rfl, by decide +kernel, by decide +kernel⟩
theorem b_stepped : BindOk d_stepped := fun _ _ _ _ _ _ us hl => match us, hl with | [_], _ => rfl
theorem s_stepped : FnScope d_stepped.N d_stepped.ps d_stepped.scope := ⟨rfl, rfl, rfl, by decide +kernel, rfl, by decide +kernel, by decide +kernel⟩
theorem b_folded : BindOk d_folded := fun _ _ _ _ _ _ us hl => match us, hl with | [_], _ => rfl
theorem s_folded : FnScope d_folded.N d_folded.ps d_folded.scope := ⟨rfl, rfl, rfl, by decide +kernel, rfl, by decide +kernel, by decide +kernel⟩
theorem b_looped : BindOk d_looped := fun _ _ _ _ _ _ us hl => match us, hl with | [_], _ => rfl
theorem s_looped : FnScope d_looped.N d_looped.ps d_looped.scope := ⟨rfl, rfl, rfl, by decide +kernel, rfl, by decide +kernel, by decide +kernel⟩
theorem b__law_draws : BindOk d__law_draws := fun _ _ _ _ _ _ us hl => match us, hl with | [_, _], _ => rfl
theorem s__law_draws : FnScope d__law_draws.N d__law_draws.ps d__law_draws.scope := ⟨rfl, rfl, rfl, by decide +kernel, rfl, by decide +kernel, by decide +kernel⟩
theorem b__law_next : BindOk d__law_next := fun _ _ _ _ _ _ us hl => match us, hl with | [_, _], _ => rfl
theorem s__law_next : FnScope d__law_next.N d__law_next.ps d__law_next.scope := ⟨rfl, rfl, rfl, by decide +kernel, rfl, by decide +kernel, by decide +kernel⟩
theorem b__law_pick : BindOk d__law_pick := fun _ _ _ _ _ _ us hl => match us, hl with | [_, _], _ => rfl
theorem s__law_pick : FnScope d__law_pick.N d__law_pick.ps d__law_pick.scope := ⟨rfl, rfl, rfl, by decide +kernel, rfl, by decide +kernel, by decide +kernel⟩
theorem b__law_parts : BindOk d__law_parts := fun _ _ _ _ _ _ us hl => match us, hl with | [_], _ => rfl
theorem s__law_parts : FnScope d__law_parts.N d__law_parts.ps d__law_parts.scope := ⟨rfl, rfl, rfl, by decide +kernel, rfl, by decide +kernel, by decide +kernel⟩
theorem b__law_binds : BindOk d__law_binds := fun _ _ _ _ _ _ us hl => match us, hl with | [_], _ => rfl
theorem s__law_binds : FnScope d__law_binds.N d__law_binds.ps d__law_binds.scope := ⟨rfl, rfl, rfl, by decide +kernel, rfl, by decide +kernel, by decide +kernel⟩
theorem b__law_within : BindOk d__law_within := fun _ _ _ _ _ _ us hl => match us, hl with | [_], _ => rfl
theorem s__law_within : FnScope d__law_within.N d__law_within.ps d__law_within.scope := ⟨rfl, rfl, rfl, by decide +kernel, rfl, by decide +kernel, by decide +kernel⟩
theorem b__law_ways : BindOk d__law_ways := fun _ _ _ _ _ _ us hl => match us, hl with | [_], _ => rfl
theorem s__law_ways : FnScope d__law_ways.N d__law_ways.ps d__law_ways.scope := ⟨rfl, rfl, rfl, by decide +kernel, rfl, by decide +kernel, by decide +kernel⟩
theorem b__law_free : BindOk d__law_free := fun _ _ _ _ _ _ us hl => match us, hl with | [_], _ => rfl
theorem s__law_free : FnScope d__law_free.N d__law_free.ps d__law_free.scope := ⟨rfl, rfl, rfl, by decide +kernel, rfl, by decide +kernel, by decide +kernel⟩
theorem b__law_bare : BindOk d__law_bare := fun _ _ _ _ _ _ us hl => match us, hl with | [_, _], _ => rfl
theorem s__law_bare : FnScope d__law_bare.N d__law_bare.ps d__law_bare.scope := ⟨rfl, rfl, rfl, by decide +kernel, rfl, by decide +kernel, by decide +kernel⟩
theorem b__law_alike : BindOk d__law_alike := fun _ _ _ _ _ _ us hl => match us, hl with | [_, _], _ => rfl
theorem s__law_alike : FnScope d__law_alike.N d__law_alike.ps d__law_alike.scope := ⟨rfl, rfl, rfl, by decide +kernel, rfl, by decide +kernel, by decide +kernel⟩
theorem b__law_wild : BindOk d__law_wild := fun _ _ _ _ _ _ us hl => match us, hl with | [_, _], _ => rfl
theorem s__law_wild : FnScope d__law_wild.N d__law_wild.ps d__law_wild.scope := ⟨rfl, rfl, rfl, by decide +kernel, rfl, by decide +kernel, by decide +kernel⟩
theorem b__law_put : BindOk d__law_put := fun _ _ _ _ _ _ us hl => match us, hl with | [_, _, _, _], _ => rfl
theorem s__law_put : FnScope d__law_put.N d__law_put.ps d__law_put.scope := ⟨rfl, rfl, rfl, by decide +kernel, rfl, by decide +kernel, by decide +kernel⟩
theorem b__law_bound : BindOk d__law_bound := fun _ _ _ _ _ _ us hl => match us, hl with | [_], _ => rfl
theorem s__law_bound : FnScope d__law_bound.N d__law_bound.ps d__law_bound.scope := ⟨rfl, rfl, rfl, by decide +kernel, rfl, by decide +kernel, by decide +kernel⟩
theorem b_law : BindOk d_law := fun _ _ _ _ _ _ us hl => match us, hl with | [_], _ => rfl
theorem s_law : FnScope d_law.N d_law.ps d_law.scope := ⟨rfl, rfl, rfl, by decide +kernel, rfl, by decide +kernel, by decide +kernel⟩
end
theorem binds : ∀ d ∈ T.defs, BindOk d := List.forall_mem_cons.mpr ⟨b_parts_of, List.forall_mem_cons.mpr ⟨b_with_parts, List.forall_mem_cons.mpr ⟨b_binds_in, List.forall_mem_cons.mpr ⟨b_with_names, List.forall_mem_cons.mpr ⟨b_all_within, List.forall_mem_cons.mpr ⟨b_names_in, List.forall_mem_cons.mpr ⟨b_free_in, List.forall_mem_cons.mpr ⟨b_worked, List.forall_mem_cons.mpr ⟨b_word_of, List.forall_mem_cons.mpr ⟨b_fresh_name, List.forall_mem_cons.mpr ⟨b_renamed, List.forall_mem_cons.mpr ⟨b_replaced, List.forall_mem_cons.mpr ⟨b_apart_from, List.forall_mem_cons.mpr ⟨b_with_bound, List.forall_mem_cons.mpr ⟨b_marked, List.forall_mem_cons.mpr ⟨b_same_terms, List.forall_mem_cons.mpr ⟨b_tidy, List.forall_mem_cons.mpr ⟨b_ordered, List.forall_mem_cons.mpr ⟨b_next_name, List.forall_mem_cons.mpr ⟨b_is_apart, List.forall_mem_cons.mpr ⟨b_bound_in, List.forall_mem_cons.mpr ⟨b_can_step, List.forall_mem_cons.mpr ⟨b_stepped, List.forall_mem_cons.mpr ⟨b_folded, List.forall_mem_cons.mpr ⟨b_looped, List.forall_mem_cons.mpr ⟨b__law_draws, List.forall_mem_cons.mpr ⟨b__law_next, List.forall_mem_cons.mpr ⟨b__law_pick, List.forall_mem_cons.mpr ⟨b__law_parts, List.forall_mem_cons.mpr ⟨b__law_binds, List.forall_mem_cons.mpr ⟨b__law_within, List.forall_mem_cons.mpr ⟨b__law_ways, List.forall_mem_cons.mpr ⟨b__law_free, List.forall_mem_cons.mpr ⟨b__law_bare, List.forall_mem_cons.mpr ⟨b__law_alike, List.forall_mem_cons.mpr ⟨b__law_wild, List.forall_mem_cons.mpr ⟨b__law_put, List.forall_mem_cons.mpr ⟨b__law_bound, List.forall_mem_cons.mpr ⟨b_law, List.forall_mem_nil _⟩⟩⟩⟩⟩⟩⟩⟩⟩⟩⟩⟩⟩⟩⟩⟩⟩⟩⟩⟩⟩⟩⟩⟩⟩⟩⟩⟩⟩⟩⟩⟩⟩⟩⟩⟩⟩⟩⟩
theorem scopes : ∀ d ∈ T.defs, FnScope d.N d.ps d.scope := List.forall_mem_cons.mpr ⟨s_parts_of, List.forall_mem_cons.mpr ⟨s_with_parts, List.forall_mem_cons.mpr ⟨s_binds_in, List.forall_mem_cons.mpr ⟨s_with_names, List.forall_mem_cons.mpr ⟨s_all_within, List.forall_mem_cons.mpr ⟨s_names_in, List.forall_mem_cons.mpr ⟨s_free_in, List.forall_mem_cons.mpr ⟨s_worked, List.forall_mem_cons.mpr ⟨s_word_of, List.forall_mem_cons.mpr ⟨s_fresh_name, List.forall_mem_cons.mpr ⟨s_renamed, List.forall_mem_cons.mpr ⟨s_replaced, List.forall_mem_cons.mpr ⟨s_apart_from, List.forall_mem_cons.mpr ⟨s_with_bound, List.forall_mem_cons.mpr ⟨s_marked, List.forall_mem_cons.mpr ⟨s_same_terms, List.forall_mem_cons.mpr ⟨s_tidy, List.forall_mem_cons.mpr ⟨s_ordered, List.forall_mem_cons.mpr ⟨s_next_name, List.forall_mem_cons.mpr ⟨s_is_apart, List.forall_mem_cons.mpr ⟨s_bound_in, List.forall_mem_cons.mpr ⟨s_can_step, List.forall_mem_cons.mpr ⟨s_stepped, List.forall_mem_cons.mpr ⟨s_folded, List.forall_mem_cons.mpr ⟨s_looped, List.forall_mem_cons.mpr ⟨s__law_draws, List.forall_mem_cons.mpr ⟨s__law_next, List.forall_mem_cons.mpr ⟨s__law_pick, List.forall_mem_cons.mpr ⟨s__law_parts, List.forall_mem_cons.mpr ⟨s__law_binds, List.forall_mem_cons.mpr ⟨s__law_within, List.forall_mem_cons.mpr ⟨s__law_ways, List.forall_mem_cons.mpr ⟨s__law_free, List.forall_mem_cons.mpr ⟨s__law_bare, List.forall_mem_cons.mpr ⟨s__law_alike, List.forall_mem_cons.mpr ⟨s__law_wild, List.forall_mem_cons.mpr ⟨s__law_put, List.forall_mem_cons.mpr ⟨s__law_bound, List.forall_mem_cons.mpr ⟨s_law, List.forall_mem_nil _⟩⟩⟩⟩⟩⟩⟩⟩⟩⟩⟩⟩⟩⟩⟩⟩⟩⟩⟩⟩⟩⟩⟩⟩⟩⟩⟩⟩⟩⟩⟩⟩⟩⟩⟩⟩⟩⟩⟩
def loose0 : List PySem.Str := ["LETTERS", "parts_of", "with_parts", "binds_in", "with_names", "all_within", "names_in", "free_in", "worked", "word_of", "fresh_name", "renamed", "replaced", "apart_from", "with_bound", "marked", "same_terms", "tidy", "ordered", "next_name", "is_apart", "bound_in", "StageError", "Unfit", "NEEDS", "can_step", "stepped", "folded", "looped", "_law_draws"]
def loose1 : List PySem.Str := ["_law_next", "_law_pick", "_law_parts", "_law_binds", "_law_within", "_law_ways", "_law_free", "_law_bare", "_law_alike", "_law_wild", "_law_put", "_law_bound"]
abbrev loose : List PySem.Str := loose0 ++ loose1
abbrev R : PySem.W.OpenRow := PySem.W.OpenLaw.row PySem.Challenge.rw_writtenahead_k05_whole_names_never_catch
abbrev hk : PySem.W.Hook := He.hookX 4 T.fa T.fn T.ts [] T.ex
def ob (s : PySem.W.SharedT) : He.AlX := He.obsX 4 T.fa T.fn T.ts [] T.ex (HandSHeadRun.getT s)
theorem ob_eq (s : PySem.W.SharedT) : ob s = hk.obs s.abs := He.obsX_eq (HandSHeadRun.getT_eq s)
theorem runF (w : World) : HandSHeadRun.RunEq R (PySem.W.view R.prog [47]) hk ob 8000 loose (w.withFollow "special-get-raises" false) := by
  intro os
  kernel_rfl
theorem runT (w : World) : HandSHeadRun.RunEq R (PySem.W.view R.prog [47]) hk ob 8000 loose (w.withFollow "special-get-raises" true) := by
  intro os
  kernel_rfl
theorem run (w : World) : HandSHeadRun.RunEq R (PySem.W.view R.prog [47]) hk ob 8000 loose w :=
  PySem.W.byRow2 "special-get-raises" (P := fun w => HandSHeadRun.RunEq R (PySem.W.view R.prog [47]) hk ob 8000 loose w) runF runT w
end K05
open PySem PySem.W PySem.Calls PyProof.Rows Fp
theorem K05.holds_of {n L : Nat} (hr : L2.Room n callerA) (lt : LawTrue K05.T n L 63) : PySem.Challenge.rw_writtenahead_k05_whole_names_never_catch.Holds := by
  w_on; o_law
  refine HandSHeadRun.head_any (r := OpenLaw.row PySem.Challenge.rw_writtenahead_k05_whole_names_never_catch) (q := view (OpenLaw.row PySem.Challenge.rw_writtenahead_k05_whole_names_never_catch).prog [47]) (H := K05.hk) (ob := K05.ob) (M := 8000) (loose := K05.loose) (d := HandSHeadRun.topDef (OpenLaw.row PySem.Challenge.rw_writtenahead_k05_whole_names_never_catch).prog 47) (kwd := []) K05.ob_eq
    (by kernel_rfl) (fun s => by kernel_rfl) K05.run (by kernel_rfl) (by kernel_rfl) (by kernel_rfl) (by rfl) (by first | assumption | decide +kernel) (by decide +kernel) ⟨rfl, rfl, rfl, rfl, rfl, by decide +kernel⟩ ?hw ?hc
  case hw => w_witness2
  case hc =>
    refine L2.walk_ofE (l := PySem.Challenge.rw_writtenahead_k05_whole_names_never_catch) (n := 63) (k := n) (x := "script") (CX := L2.CX0) rfl (by decide) (by kernel_rfl) hr ?F (fun _ _ _ _ z => z)
    intro w mg fa h Y G hmg0
    obtain ⟨K, KX, c⟩ := Y
    have hmg : mg ("law" : PySem.Str) = some (.ref fa) := by
      have e : (HandSHeadRun.topDef (OpenLaw.row PySem.Challenge.rw_writtenahead_k05_whole_names_never_catch).prog 47).name = ("law" : PySem.Str) := by kernel_rfl
      rw [← e]
      exact hmg0
    exact law_facts (T := K05.T) KX G c K05.binds K05.scopes (dl := K05.d_law) (by kernel_rfl) rfl hmg lt

set_option maxHeartbeats 0
/-! K05c: the meanings of the defs, as combinators (printed by show.py) -/
namespace K05
open PySem Fp
def k_NEEDS : List (Str × D) := [(("app" : Str), .tup [.str ("fun" : Str)]), (("if" : Str), .tup [.str ("num" : Str)]), (("first" : Str), .tup [.str ("pair" : Str)]), (("second" : Str), .tup [.str ("pair" : Str)]), (("fold" : Str), .tup [.str ("nil" : Str), .str ("cons" : Str)]), (("loop" : Str), .tup [.str ("num" : Str)]), (("splice" : Str), .tup [.str ("quote" : Str)]), (("lift" : Str), .tup [.str ("num" : Str)])]
def m_parts_of : SS := (ssCons (ssSet (.nm 1) (sOp opIx (sVar 0) (sK (.int 0)))) (ssCons (ssIf (stCmp cpIn (sVar 1) (sApp sTup (sCons (sK (.str ("num" : Str))) (sCons (sK (.str ("var" : Str))) (sCons (sK (.str ("nil" : Str))) sNil))))) (ssCons (ssRet (sApp sTup sNil)) ssNil) ssNil) (ssCons (ssIf (stCmp cpIn (sVar 1) (sApp sTup (sCons (sK (.str ("fun" : Str))) (sCons (sK (.str ("op" : Str))) (sCons (sK (.str ("let" : Str))) sNil))))) (ssCons (ssRet (sSl (sVar 0) (soSome (sK (.int 2))) soNo)) ssNil) ssNil) (ssCons (ssIf (stCmp cpEq (sVar 1) (sK (.str ("fold" : Str)))) (ssCons (ssRet (sApp sTup (sCons (sOp opIx (sVar 0) (sK (.int 1))) (sCons (sOp opIx (sVar 0) (sK (.int 2))) (sCons (sOp opIx (sVar 0) (sK (.int 5))) sNil))))) ssNil) ssNil) (ssCons (ssRet (sIfE (stCmp cpEq (sVar 1) (sK (.str ("loop" : Str)))) (sApp sTup (sCons (sOp opIx (sVar 0) (sK (.int 1))) (sCons (sOp opIx (sVar 0) (sK (.int 2))) (sCons (sOp opIx (sVar 0) (sK (.int 4))) sNil)))) (sSl (sVar 0) (soSome (sK (.int 1))) soNo))) ssNil)))))
theorem sem_parts_of : T.sem d_parts_of = m_parts_of := by kernel_rfl
theorem tab_parts_of : T.tab ("parts_of" : Str) = some ⟨1, 2, m_parts_of⟩ := (by kernel_rfl : T.tab ("parts_of" : Str) = some ⟨1, 2, T.sem d_parts_of⟩).trans (by rw [sem_parts_of])
def m_with_parts : SS := (ssCons (ssPar [2, 1] (sCons (sOp opIx (sVar 0) (sK (.int 0))) (sCons (sApp (one biTuple) (sCons (sVar 1) sNil)) sNil))) (ssCons (ssIf (stCmp cpIn (sVar 2) (sApp sTup (sCons (sK (.str ("num" : Str))) (sCons (sK (.str ("var" : Str))) (sCons (sK (.str ("nil" : Str))) sNil))))) (ssCons (ssRet (sVar 0)) ssNil) ssNil) (ssCons (ssIf (stCmp cpIn (sVar 2) (sApp sTup (sCons (sK (.str ("fun" : Str))) (sCons (sK (.str ("op" : Str))) (sCons (sK (.str ("let" : Str))) sNil))))) (ssCons (ssRet (sOp opAdd (sSl (sVar 0) soNo (soSome (sK (.int 2)))) (sVar 1))) ssNil) ssNil) (ssCons (ssIf (stCmp cpIn (sVar 2) (sApp sTup (sCons (sK (.str ("fold" : Str))) (sCons (sK (.str ("loop" : Str))) sNil)))) (ssCons (ssRet (sOp opAdd (sOp opAdd (sOp opAdd (sApp sTup (sCons (sVar 2) sNil)) (sSl (sVar 1) soNo (soSome (sK (.int 2))))) (sSl (sVar 0) (soSome (sK (.int 3))) (soSome (sUn opNeg (sK (.int 1)))))) (sSl (sVar 1) (soSome (sK (.int 2))) soNo))) ssNil) ssNil) (ssCons (ssRet (sOp opAdd (sApp sTup (sCons (sVar 2) sNil)) (sVar 1))) ssNil)))))
theorem sem_with_parts : T.sem d_with_parts = m_with_parts := by kernel_rfl
theorem tab_with_parts : T.tab ("with_parts" : Str) = some ⟨2, 3, m_with_parts⟩ := (by kernel_rfl : T.tab ("with_parts" : Str) = some ⟨2, 3, T.sem d_with_parts⟩).trans (by rw [sem_with_parts])
def m_binds_in : SS := (ssCons (ssSet (.nm 1) (sOp opIx (sVar 0) (sK (.int 0)))) (ssCons (ssIf (stCmp cpEq (sVar 1) (sK (.str ("fun" : Str)))) (ssCons (ssRet (sApp sTup (sCons (sApp sTup (sCons (sOp opIx (sVar 0) (sK (.int 1))) sNil)) sNil))) ssNil) ssNil) (ssCons (ssIf (stCmp cpEq (sVar 1) (sK (.str ("let" : Str)))) (ssCons (ssRet (sApp sTup (sCons (sApp sTup sNil) (sCons (sApp sTup (sCons (sOp opIx (sVar 0) (sK (.int 1))) sNil)) sNil)))) ssNil) ssNil) (ssCons (ssIf (stCmp cpIn (sVar 1) (sApp sTup (sCons (sK (.str ("fold" : Str))) (sCons (sK (.str ("loop" : Str))) sNil)))) (ssCons (ssRet (sApp sTup (sCons (sApp sTup sNil) (sCons (sApp sTup sNil) (sCons (sSl (sVar 0) (soSome (sK (.int 3))) (soSome (sUn opNeg (sK (.int 1))))) sNil))))) ssNil) ssNil) (ssCons (ssRet (sOp opMul (sApp sTup (sCons (sApp sTup sNil) sNil)) (sApp (one biLen) (sCons (sCall ("parts_of" : Str) (sCons (sVar 0) sNil)) sNil)))) ssNil)))))
theorem sem_binds_in : T.sem d_binds_in = m_binds_in := by kernel_rfl
theorem tab_binds_in : T.tab ("binds_in" : Str) = some ⟨1, 2, m_binds_in⟩ := (by kernel_rfl : T.tab ("binds_in" : Str) = some ⟨1, 2, T.sem d_binds_in⟩).trans (by rw [sem_binds_in])
def m_with_names : SS := (ssCons (ssIf (stCmp cpIn (sOp opIx (sVar 0) (sK (.int 0))) (sApp sTup (sCons (sK (.str ("fun" : Str))) (sCons (sK (.str ("let" : Str))) sNil)))) (ssCons (ssRet (sOp opAdd (sOp opAdd (sSl (sVar 0) soNo (soSome (sK (.int 1)))) (sApp sTup (sCons (sOp opIx (sVar 1) (sK (.int 0))) sNil))) (sSl (sVar 0) (soSome (sK (.int 2))) soNo))) ssNil) ssNil) (ssCons (ssRet (sOp opAdd (sOp opAdd (sSl (sVar 0) soNo (soSome (sK (.int 3)))) (sApp (one biTuple) (sCons (sVar 1) sNil))) (sSl (sVar 0) (soSome (sUn opNeg (sK (.int 1)))) soNo))) ssNil))
theorem sem_with_names : T.sem d_with_names = m_with_names := by kernel_rfl
theorem tab_with_names : T.tab ("with_names" : Str) = some ⟨2, 2, m_with_names⟩ := (by kernel_rfl : T.tab ("with_names" : Str) = some ⟨2, 2, T.sem d_with_names⟩).trans (by rw [sem_with_names])
def b_all_within_1 : SS := (ssCons (ssSet (.nm 3) (sMeth isL mPop (sVar 2) sNil)) (ssCons (ssExpr (sMeth isL mAppend (sVar 1) (sCons (sVar 3) sNil))) (ssCons (ssExpr (sMeth isL mExtend (sVar 2) (sCons (sUn opRev (sApp (one (biList false)) (sCons (sCall ("parts_of" : Str) (sCons (sVar 3) sNil)) sNil))) sNil))) ssNil)))
def m_all_within : SS := (ssCons (ssPar [1, 2] (sCons (sApp (mkL true) sNil) (sCons (sApp (mkL true) (sCons (sVar 0) sNil)) sNil))) (ssCons (ssWhile (stCmp cpNe (sVar 2) (sApp (mkL false) sNil)) b_all_within_1) (ssCons (ssRet (sApp (one biTuple) (sCons (sVar 1) sNil))) ssNil)))
theorem sem_all_within : T.sem d_all_within = m_all_within := by kernel_rfl
theorem tab_all_within : T.tab ("all_within" : Str) = some ⟨1, 4, m_all_within⟩ := (by kernel_rfl : T.tab ("all_within" : Str) = some ⟨1, 4, T.sem d_all_within⟩).trans (by rw [sem_all_within])
def b_names_in_1 : SS := (ssCons (ssExpr (sMeth isL mExtend (sVar 1) (sCons (sIfE (stCmp cpEq (sOp opIx (sVar 2) (sK (.int 0))) (sK (.str ("var" : Str)))) (sApp (mkL false) (sCons (sOp opIx (sVar 2) (sK (.int 1))) sNil)) (sApp (mkL false) sNil)) sNil))) (ssCons (ssExpr (sMeth isL mExtend (sVar 1) (sCons (sComp2 false (siSeq (sCall ("binds_in" : Str) (sCons (sVar 2) sNil))) (.nm 3) [3, 4] (siSeq (sVar 3)) [4] (.nm 4) stYes (sVar 4)) sNil))) ssNil))
def m_names_in : SS := (ssCons (ssSet (.nm 1) (sApp (mkL true) sNil)) (ssCons (ssFor (siSeq (sCall ("all_within" : Str) (sCons (sVar 0) sNil))) (.nm 2) b_names_in_1) (ssCons (ssRet (sApp (one biTuple) (sCons (sUn biSortSet (sVar 1)) sNil))) ssNil)))
theorem sem_names_in : T.sem d_names_in = m_names_in := by kernel_rfl
theorem tab_names_in : T.tab ("names_in" : Str) = some ⟨1, 5, m_names_in⟩ := (by kernel_rfl : T.tab ("names_in" : Str) = some ⟨1, 5, T.sem d_names_in⟩).trans (by rw [sem_names_in])
def b_free_in_1 : SS := (ssCons (ssExpr (sMeth isL mExtend (sVar 1) (sCons (sComp false (siSeq (sCall ("free_in" : Str) (sCons (sVar 2) sNil))) (.nm 4) [4] (stCmp cpNotIn (sVar 4) (sVar 3)) (sVar 4)) sNil))) ssNil)
def m_free_in : SS := (ssCons (ssIf (stCmp cpEq (sOp opIx (sVar 0) (sK (.int 0))) (sK (.str ("var" : Str)))) (ssCons (ssRet (sApp sTup (sCons (sOp opIx (sVar 0) (sK (.int 1))) sNil))) ssNil) ssNil) (ssCons (ssSet (.nm 1) (sApp (mkL true) sNil)) (ssCons (ssFor (siZip (sCons (sCall ("parts_of" : Str) (sCons (sVar 0) sNil)) (sCons (sCall ("binds_in" : Str) (sCons (sVar 0) sNil)) sNil))) (.tp [2, 3]) b_free_in_1) (ssCons (ssRet (sApp (one biTuple) (sCons (sUn biSortSet (sVar 1)) sNil))) ssNil))))
theorem sem_free_in : T.sem d_free_in = m_free_in := by kernel_rfl
theorem tab_free_in : T.tab ("free_in" : Str) = some ⟨1, 5, m_free_in⟩ := (by kernel_rfl : T.tab ("free_in" : Str) = some ⟨1, 5, T.sem d_free_in⟩).trans (by rw [sem_free_in])
def m_worked : SS := (ssCons (ssIf (stCmp cpEq (sVar 0) (sK (.str ("add" : Str)))) (ssCons (ssRet (sOp opAdd (sVar 1) (sVar 2))) ssNil) ssNil) (ssCons (ssIf (stCmp cpEq (sVar 0) (sK (.str ("take" : Str)))) (ssCons (ssRet (sOp opSub (sVar 1) (sVar 2))) ssNil) ssNil) (ssCons (ssIf (stCmp cpEq (sVar 0) (sK (.str ("times" : Str)))) (ssCons (ssRet (sOp opMul (sVar 1) (sVar 2))) ssNil) ssNil) (ssCons (ssIf (stCmp cpEq (sVar 0) (sK (.str ("least" : Str)))) (ssCons (ssRet (sApp biMin (sCons (sVar 1) (sCons (sVar 2) sNil)))) ssNil) ssNil) (ssCons (ssIf (stCmp cpEq (sVar 0) (sK (.str ("most" : Str)))) (ssCons (ssRet (sApp biMax (sCons (sVar 1) (sCons (sVar 2) sNil)))) ssNil) ssNil) (ssCons (ssRet (sIfE (stCmp cpEq (sVar 0) (sK (.str ("less" : Str)))) (sApp (one biInt) (sCons (sOp (opC cpLt) (sVar 1) (sVar 2)) sNil)) (sApp (one biInt) (sCons (sOp (opC cpEq) (sVar 1) (sVar 2)) sNil)))) ssNil))))))
theorem sem_worked : T.sem d_worked = m_worked := by kernel_rfl
theorem tab_worked : T.tab ("worked" : Str) = some ⟨3, 3, m_worked⟩ := (by kernel_rfl : T.tab ("worked" : Str) = some ⟨3, 3, T.sem d_worked⟩).trans (by rw [sem_worked])
def b_word_of_1 : SS := (ssCons (ssSet (.nm 0) (sOp opSub (sOp opDiv (sVar 0) (sK (.int 26))) (sK (.int 1)))) (ssCons (ssSet (.nm 1) (sOp opAdd (sOp opIx (sK (.str ("abcdefghijklmnopqrstuvwxyz" : Str))) (sOp opMod (sVar 0) (sK (.int 26)))) (sVar 1))) ssNil))
def m_word_of : SS := (ssCons (ssSet (.nm 1) (sOp opIx (sK (.str ("abcdefghijklmnopqrstuvwxyz" : Str))) (sOp opMod (sVar 0) (sK (.int 26))))) (ssCons (ssWhile (stCmp cpGe (sVar 0) (sK (.int 26))) b_word_of_1) (ssCons (ssRet (sVar 1)) ssNil)))
theorem sem_word_of : T.sem d_word_of = m_word_of := by kernel_rfl
theorem tab_word_of : T.tab ("word_of" : Str) = some ⟨1, 2, m_word_of⟩ := (by kernel_rfl : T.tab ("word_of" : Str) = some ⟨1, 2, T.sem d_word_of⟩).trans (by rw [sem_word_of])
def b_fresh_name_1 : SS := (ssCons (ssAug 1 opIAdd (sK (.int 1))) ssNil)
def m_fresh_name : SS := (ssCons (ssSet (.nm 1) (sK (.int 0))) (ssCons (ssWhile (stCmp cpIn (sOp opAdd (sK (.str ("z" : Str))) (sCall ("word_of" : Str) (sCons (sVar 1) sNil))) (sVar 0)) b_fresh_name_1) (ssCons (ssRet (sOp opAdd (sK (.str ("z" : Str))) (sCall ("word_of" : Str) (sCons (sVar 1) sNil)))) ssNil)))
theorem sem_fresh_name : T.sem d_fresh_name = m_fresh_name := by kernel_rfl
theorem tab_fresh_name : T.tab ("fresh_name" : Str) = some ⟨1, 2, m_fresh_name⟩ := (by kernel_rfl : T.tab ("fresh_name" : Str) = some ⟨1, 2, T.sem d_fresh_name⟩).trans (by rw [sem_fresh_name])
def b_renamed_1 : SS := (ssCons (ssSet (.nm 0) (sCall ("replaced" : Str) (sCons (sVar 0) (sCons (sVar 2) (sCons (sApp sTup (sCons (sK (.str ("var" : Str))) (sCons (sOp opIx (sVar 1) (sVar 2)) sNil))) sNil))))) ssNil)
def m_renamed : SS := (ssCons (ssFor (siSeq (sApp (one biSorted) (sCons (sVar 1) sNil))) (.nm 2) b_renamed_1) (ssCons (ssRet (sVar 0)) ssNil))
theorem sem_renamed : T.sem d_renamed = m_renamed := by kernel_rfl
theorem tab_renamed : T.tab ("renamed" : Str) = some ⟨2, 3, m_renamed⟩ := (by kernel_rfl : T.tab ("renamed" : Str) = some ⟨2, 3, T.sem d_renamed⟩).trans (by rw [sem_renamed])
def b_replaced_1 : SS := (ssCons (ssExpr (sMeth isL mAppend (sVar 3) (sCons (sIfE (stCmp cpIn (sVar 1) (sVar 5)) (sVar 4) (sCall ("replaced" : Str) (sCons (sVar 4) (sCons (sVar 1) (sCons (sVar 2) sNil))))) sNil))) ssNil)
def m_replaced : SS := (ssCons (ssIf (stCmp cpEq (sOp opIx (sVar 0) (sK (.int 0))) (sK (.str ("var" : Str)))) (ssCons (ssRet (sIfE (stCmp cpEq (sOp opIx (sVar 0) (sK (.int 1))) (sVar 1)) (sVar 2) (sVar 0))) ssNil) ssNil) (ssCons (ssIf (stCmp cpNotIn (sVar 1) (sCall ("free_in" : Str) (sCons (sVar 0) sNil))) (ssCons (ssRet (sVar 0)) ssNil) ssNil) (ssCons (ssSet (.nm 0) (sCall ("apart_from" : Str) (sCons (sVar 0) (sCons (sCall ("free_in" : Str) (sCons (sVar 2) sNil)) sNil)))) (ssCons (ssSet (.nm 3) (sApp (mkL true) sNil)) (ssCons (ssFor (siZip (sCons (sCall ("parts_of" : Str) (sCons (sVar 0) sNil)) (sCons (sCall ("binds_in" : Str) (sCons (sVar 0) sNil)) sNil))) (.tp [4, 5]) b_replaced_1) (ssCons (ssRet (sCall ("with_parts" : Str) (sCons (sVar 0) (sCons (sVar 3) sNil)))) ssNil))))))
theorem sem_replaced : T.sem d_replaced = m_replaced := by kernel_rfl
theorem tab_replaced : T.tab ("replaced" : Str) = some ⟨3, 6, m_replaced⟩ := (by kernel_rfl : T.tab ("replaced" : Str) = some ⟨3, 6, T.sem d_replaced⟩).trans (by rw [sem_replaced])
def b_apart_from_1 : SS := (ssCons (ssIf (stCmp cpIn (sVar 3) (sVar 1)) (ssCons (ssSet (.nm 5) (sCall ("fresh_name" : Str) (sCons (sOp opAdd (sOp opAdd (sApp (one biTuple) (sCons (sVar 1) sNil)) (sCall ("names_in" : Str) (sCons (sVar 0) sNil))) (sApp (one biTuple) (sCons (sVar 2) sNil))) sNil))) (ssCons (ssRet (sCall ("apart_from" : Str) (sCons (sCall ("with_bound" : Str) (sCons (sVar 0) (sCons (sVar 3) (sCons (sVar 5) sNil)))) (sCons (sVar 1) sNil)))) ssNil)) ssNil) ssNil)
def m_apart_from : SS := (ssCons (ssSet (.nm 2) (sComp2 false (siSeq (sCall ("binds_in" : Str) (sCons (sVar 0) sNil))) (.nm 4) [4, 3] (siSeq (sVar 4)) [3] (.nm 3) stYes (sVar 3))) (ssCons (ssFor (siSeq (sVar 2)) (.nm 3) b_apart_from_1) (ssCons (ssRet (sVar 0)) ssNil)))
theorem sem_apart_from : T.sem d_apart_from = m_apart_from := by kernel_rfl
theorem tab_apart_from : T.tab ("apart_from" : Str) = some ⟨2, 6, m_apart_from⟩ := (by kernel_rfl : T.tab ("apart_from" : Str) = some ⟨2, 6, T.sem d_apart_from⟩).trans (by rw [sem_apart_from])
def b_with_bound_1 : SS := (ssCons (ssExpr (sMeth isL mAppend (sVar 3) (sCons (sIfE (stCmp cpIn (sVar 1) (sVar 6)) (sCall ("replaced" : Str) (sCons (sVar 5) (sCons (sVar 1) (sCons (sApp sTup (sCons (sK (.str ("var" : Str))) (sCons (sVar 2) sNil))) sNil)))) (sVar 5)) sNil))) (ssCons (ssExpr (sMeth isL mExtend (sVar 4) (sCons (sApp (one (biList false)) (sCons (sVar 6) sNil)) sNil))) ssNil))
def m_with_bound : SS := (ssCons (ssPar [3, 4] (sCons (sApp (mkL true) sNil) (sCons (sApp (mkL true) sNil) sNil))) (ssCons (ssFor (siZip (sCons (sCall ("parts_of" : Str) (sCons (sVar 0) sNil)) (sCons (sCall ("binds_in" : Str) (sCons (sVar 0) sNil)) sNil))) (.tp [5, 6]) b_with_bound_1) (ssCons (ssRet (sCall ("with_names" : Str) (sCons (sCall ("with_parts" : Str) (sCons (sVar 0) (sCons (sVar 3) sNil))) (sCons (sComp false (siSeq (sVar 4)) (.nm 7) [7] stYes (sIfE (stCmp cpEq (sVar 7) (sVar 1)) (sVar 2) (sVar 7))) sNil)))) ssNil)))
theorem sem_with_bound : T.sem d_with_bound = m_with_bound := by kernel_rfl
theorem tab_with_bound : T.tab ("with_bound" : Str) = some ⟨3, 8, m_with_bound⟩ := (by kernel_rfl : T.tab ("with_bound" : Str) = some ⟨3, 8, T.sem d_with_bound⟩).trans (by rw [sem_with_bound])
def b_marked_1 : SS := (ssCons (ssSet (.nm 8) (sApp (one (biDict true)) (sCons (sVar 1) sNil))) (ssCons (ssExpr (sMeth isDd mUpdate (sVar 8) (sCons (sApp (biDZ2 false) (sCons (sVar 7) (sCons (sVar 2) (sCons (sOp opAdd (sVar 2) (sApp (one biLen) (sCons (sVar 7) sNil))) sNil)))) sNil))) (ssCons (ssExpr (sMeth isL mAppend (sVar 4) (sCons (sCall ("marked" : Str) (sCons (sVar 6) (sCons (sVar 8) (sCons (sOp opAdd (sVar 2) (sApp (one biLen) (sCons (sVar 7) sNil))) sNil)))) sNil))) (ssCons (ssExpr (sMeth isL mAppend (sVar 5) (sCons (sApp (one biLen) (sCons (sVar 7) sNil)) sNil))) ssNil))))
def m_marked : SS := (ssCons (ssIf (stCmp cpEq (sOp opIx (sVar 0) (sK (.int 0))) (sK (.str ("var" : Str)))) (ssCons (ssRet (sApp sTup (sCons (sK (.str ("var" : Str))) (sCons (sMeth isDd mGet2 (sVar 1) (sCons (sOp opIx (sVar 0) (sK (.int 1))) (sCons (sOp opIx (sVar 0) (sK (.int 1))) sNil))) sNil)))) ssNil) ssNil) (ssCons (ssPar [4, 5] (sCons (sApp (mkL true) sNil) (sCons (sApp (mkL true) sNil) sNil))) (ssCons (ssFor (siZip (sCons (sCall ("parts_of" : Str) (sCons (sVar 0) sNil)) (sCons (sCall ("binds_in" : Str) (sCons (sVar 0) sNil)) sNil))) (.tp [6, 7]) b_marked_1) (ssCons (ssSet (.nm 3) (sIfE (stCmp cpIn (sOp opIx (sVar 0) (sK (.int 0))) (sApp sTup (sCons (sK (.str ("num" : Str))) (sCons (sK (.str ("op" : Str))) sNil)))) (sOp opIx (sVar 0) (sK (.int 1))) (sK (.str ("" : Str))))) (ssCons (ssRet (sApp sTup (sCons (sOp opIx (sVar 0) (sK (.int 0))) (sCons (sVar 3) (sCons (sApp (one biTuple) (sCons (sVar 5) sNil)) (sCons (sApp (one biTuple) (sCons (sVar 4) sNil)) sNil)))))) ssNil)))))
theorem sem_marked : T.sem d_marked = m_marked := by kernel_rfl
theorem tab_marked : T.tab ("marked" : Str) = some ⟨3, 9, m_marked⟩ := (by kernel_rfl : T.tab ("marked" : Str) = some ⟨3, 9, T.sem d_marked⟩).trans (by rw [sem_marked])
def m_same_terms : SS := (ssCons (ssRet (sOp (opC cpEq) (sCall ("marked" : Str) (sCons (sVar 0) (sCons (sEmpD false) (sCons (sK (.int 0)) sNil)))) (sCall ("marked" : Str) (sCons (sVar 1) (sCons (sEmpD false) (sCons (sK (.int 0)) sNil)))))) ssNil)
theorem sem_same_terms : T.sem d_same_terms = m_same_terms := by kernel_rfl
theorem tab_same_terms : T.tab ("same_terms" : Str) = some ⟨2, 2, m_same_terms⟩ := (by kernel_rfl : T.tab ("same_terms" : Str) = some ⟨2, 2, T.sem d_same_terms⟩).trans (by rw [sem_same_terms])
def m_tidy : SS := (ssCons (ssRet (sCall ("ordered" : Str) (sCons (sVar 0) (sCons (sEmpD false) (sCons (sApp (mkL true) (sCons (sK (.int 0)) sNil)) (sCons (sCall ("free_in" : Str) (sCons (sVar 0) sNil)) sNil)))))) ssNil)
theorem sem_tidy : T.sem d_tidy = m_tidy := by kernel_rfl
theorem tab_tidy : T.tab ("tidy" : Str) = some ⟨1, 1, m_tidy⟩ := (by kernel_rfl : T.tab ("tidy" : Str) = some ⟨1, 1, T.sem d_tidy⟩).trans (by rw [sem_tidy])
def b_ordered_1 : SS := (ssCons (ssPut (sVar 9) (sVar 10) (sCall ("next_name" : Str) (sCons (sVar 2) (sCons (sVar 3) sNil)))) (ssCons (ssExpr (sMeth isL mAppend (sVar 6) (sCons (sOp opIx (sVar 9) (sVar 10)) sNil))) ssNil))
def b_ordered_2 : SS := (ssCons (ssSet (.nm 9) (sApp (one (biDict true)) (sCons (sVar 1) sNil))) (ssCons (ssFor (siSeq (sVar 8)) (.nm 10) b_ordered_1) (ssCons (ssExpr (sMeth isL mAppend (sVar 5) (sCons (sCall ("ordered" : Str) (sCons (sVar 7) (sCons (sVar 9) (sCons (sVar 2) (sCons (sVar 3) sNil))))) sNil))) ssNil)))
def m_ordered : SS := (ssCons (ssIf (stCmp cpEq (sOp opIx (sVar 0) (sK (.int 0))) (sK (.str ("var" : Str)))) (ssCons (ssRet (sApp sTup (sCons (sK (.str ("var" : Str))) (sCons (sMeth isDd mGet2 (sVar 1) (sCons (sOp opIx (sVar 0) (sK (.int 1))) (sCons (sOp opIx (sVar 0) (sK (.int 1))) sNil))) sNil)))) ssNil) ssNil) (ssCons (ssPar [5, 6] (sCons (sApp (mkL true) sNil) (sCons (sApp (mkL true) sNil) sNil))) (ssCons (ssFor (siZip (sCons (sCall ("parts_of" : Str) (sCons (sVar 0) sNil)) (sCons (sCall ("binds_in" : Str) (sCons (sVar 0) sNil)) sNil))) (.tp [7, 8]) b_ordered_2) (ssCons (ssSet (.nm 4) (sCall ("with_parts" : Str) (sCons (sVar 0) (sCons (sVar 5) sNil)))) (ssCons (ssRet (sIfE (stCmp cpNe (sVar 6) (sApp (mkL false) sNil)) (sCall ("with_names" : Str) (sCons (sVar 4) (sCons (sVar 6) sNil))) (sVar 4))) ssNil)))))
theorem sem_ordered : T.sem d_ordered = m_ordered := by kernel_rfl
theorem tab_ordered : T.tab ("ordered" : Str) = some ⟨4, 11, m_ordered⟩ := (by kernel_rfl : T.tab ("ordered" : Str) = some ⟨4, 11, T.sem d_ordered⟩).trans (by rw [sem_ordered])
def b_next_name_1 : SS := (ssCons (ssAugIx (sVar 0) (sK (.int 0)) opIAdd (sK (.int 1))) ssNil)
def m_next_name : SS := (ssCons (ssWhile (stCmp cpIn (sOp opAdd (sK (.str ("w" : Str))) (sCall ("word_of" : Str) (sCons (sOp opIx (sVar 0) (sK (.int 0))) sNil))) (sVar 1)) b_next_name_1) (ssCons (ssAugIx (sVar 0) (sK (.int 0)) opIAdd (sK (.int 1))) (ssCons (ssRet (sOp opAdd (sK (.str ("w" : Str))) (sCall ("word_of" : Str) (sCons (sOp opSub (sOp opIx (sVar 0) (sK (.int 0))) (sK (.int 1))) sNil)))) ssNil)))
theorem sem_next_name : T.sem d_next_name = m_next_name := by kernel_rfl
theorem tab_next_name : T.tab ("next_name" : Str) = some ⟨2, 2, m_next_name⟩ := (by kernel_rfl : T.tab ("next_name" : Str) = some ⟨2, 2, T.sem d_next_name⟩).trans (by rw [sem_next_name])
def m_is_apart : SS := (ssCons (ssSet (.nm 1) (sCall ("bound_in" : Str) (sCons (sVar 0) sNil))) (ssCons (ssRet (sAndE (sOp (opC cpEq) (sUn biLenSet (sVar 1)) (sApp (one biLen) (sCons (sVar 1) sNil))) (sUn opNot (sApp (one biAny) (sCons (sComp false (siSeq (sCall ("free_in" : Str) (sCons (sVar 0) sNil))) (.nm 2) [2] stYes (sOp (opC cpIn) (sVar 2) (sVar 1))) sNil))))) ssNil))
theorem sem_is_apart : T.sem d_is_apart = m_is_apart := by kernel_rfl
theorem tab_is_apart : T.tab ("is_apart" : Str) = some ⟨1, 3, m_is_apart⟩ := (by kernel_rfl : T.tab ("is_apart" : Str) = some ⟨1, 3, T.sem d_is_apart⟩).trans (by rw [sem_is_apart])
def b_bound_in_1 : SS := (ssCons (ssExpr (sMeth isL mExtend (sVar 1) (sCons (sOp opAdd (sApp (one (biList false)) (sCons (sVar 3) sNil)) (sCall ("bound_in" : Str) (sCons (sVar 2) sNil))) sNil))) ssNil)
def m_bound_in : SS := (ssCons (ssSet (.nm 1) (sApp (mkL true) sNil)) (ssCons (ssFor (siZip (sCons (sCall ("parts_of" : Str) (sCons (sVar 0) sNil)) (sCons (sCall ("binds_in" : Str) (sCons (sVar 0) sNil)) sNil))) (.tp [2, 3]) b_bound_in_1) (ssCons (ssRet (sVar 1)) ssNil)))
theorem sem_bound_in : T.sem d_bound_in = m_bound_in := by kernel_rfl
theorem tab_bound_in : T.tab ("bound_in" : Str) = some ⟨1, 4, m_bound_in⟩ := (by kernel_rfl : T.tab ("bound_in" : Str) = some ⟨1, 4, T.sem d_bound_in⟩).trans (by rw [sem_bound_in])
def m_can_step : SS := (ssCons (ssSet (.nm 1) (sOp opIx (sVar 0) (sK (.int 0)))) (ssCons (ssIf (stCmp cpEq (sVar 1) (sK (.str ("op" : Str)))) (ssCons (ssRet (sAndE (sOp (opC cpEq) (sOp opIx (sOp opIx (sVar 0) (sK (.int 2))) (sK (.int 0))) (sK (.str ("num" : Str)))) (sOp (opC cpEq) (sOp opIx (sOp opIx (sVar 0) (sK (.int 3))) (sK (.int 0))) (sK (.str ("num" : Str)))))) ssNil) ssNil) (ssCons (ssRet (sOrE (sOp (opC cpEq) (sVar 1) (sK (.str ("let" : Str)))) (sAndE (sUn (kdIn k_NEEDS) (sVar 1)) (sOp (opC cpIn) (sOp opIx (sOp opIx (sVar 0) (sK (.int 1))) (sK (.int 0))) (sUn (kdGet k_NEEDS) (sVar 1)))))) ssNil)))
theorem sem_can_step : T.sem d_can_step = m_can_step := by kernel_rfl
theorem tab_can_step : T.tab ("can_step" : Str) = some ⟨1, 2, m_can_step⟩ := (by kernel_rfl : T.tab ("can_step" : Str) = some ⟨1, 2, T.sem d_can_step⟩).trans (by rw [sem_can_step])
def m_stepped : SS := (ssCons (ssSet (.nm 1) (sOp opIx (sVar 0) (sK (.int 0)))) (ssCons (ssIf (stNot (stTru (sCall ("can_step" : Str) (sCons (sVar 0) sNil)))) (ssCons ssBad ssNil) ssNil) (ssCons (ssIf (stCmp cpEq (sVar 1) (sK (.str ("op" : Str)))) (ssCons (ssRet (sApp sTup (sCons (sK (.str ("num" : Str))) (sCons (sCall ("worked" : Str) (sCons (sOp opIx (sVar 0) (sK (.int 1))) (sCons (sOp opIx (sOp opIx (sVar 0) (sK (.int 2))) (sK (.int 1))) (sCons (sOp opIx (sOp opIx (sVar 0) (sK (.int 3))) (sK (.int 1))) sNil)))) sNil)))) ssNil) ssNil) (ssCons (ssIf (stCmp cpEq (sVar 1) (sK (.str ("app" : Str)))) (ssCons (ssRet (sCall ("replaced" : Str) (sCons (sOp opIx (sOp opIx (sVar 0) (sK (.int 1))) (sK (.int 2))) (sCons (sOp opIx (sOp opIx (sVar 0) (sK (.int 1))) (sK (.int 1))) (sCons (sOp opIx (sVar 0) (sK (.int 2))) sNil))))) ssNil) ssNil) (ssCons (ssIf (stCmp cpEq (sVar 1) (sK (.str ("let" : Str)))) (ssCons (ssRet (sCall ("replaced" : Str) (sCons (sOp opIx (sVar 0) (sK (.int 3))) (sCons (sOp opIx (sVar 0) (sK (.int 1))) (sCons (sOp opIx (sVar 0) (sK (.int 2))) sNil))))) ssNil) ssNil) (ssCons (ssIf (stCmp cpEq (sVar 1) (sK (.str ("if" : Str)))) (ssCons (ssRet (sIfE (stCmp cpNe (sOp opIx (sOp opIx (sVar 0) (sK (.int 1))) (sK (.int 1))) (sK (.int 0))) (sOp opIx (sVar 0) (sK (.int 2))) (sOp opIx (sVar 0) (sK (.int 3))))) ssNil) ssNil) (ssCons (ssIf (stCmp cpIn (sVar 1) (sApp sTup (sCons (sK (.str ("first" : Str))) (sCons (sK (.str ("second" : Str))) sNil)))) (ssCons (ssRet (sIfE (stCmp cpEq (sVar 1) (sK (.str ("first" : Str)))) (sOp opIx (sOp opIx (sVar 0) (sK (.int 1))) (sK (.int 1))) (sOp opIx (sOp opIx (sVar 0) (sK (.int 1))) (sK (.int 2))))) ssNil) ssNil) (ssCons (ssIf (stCmp cpIn (sVar 1) (sApp sTup (sCons (sK (.str ("splice" : Str))) (sCons (sK (.str ("lift" : Str))) sNil)))) (ssCons (ssRet (sIfE (stCmp cpEq (sVar 1) (sK (.str ("splice" : Str)))) (sOp opIx (sOp opIx (sVar 0) (sK (.int 1))) (sK (.int 1))) (sApp sTup (sCons (sK (.str ("quote" : Str))) (sCons (sOp opIx (sVar 0) (sK (.int 1))) sNil))))) ssNil) ssNil) (ssCons (ssRet (sIfE (stCmp cpEq (sVar 1) (sK (.str ("fold" : Str)))) (sCall ("folded" : Str) (sCons (sVar 0) sNil)) (sCall ("looped" : Str) (sCons (sVar 0) sNil)))) ssNil)))))))))
theorem sem_stepped : T.sem d_stepped = m_stepped := by kernel_rfl
theorem tab_stepped : T.tab ("stepped" : Str) = some ⟨1, 2, m_stepped⟩ := (by kernel_rfl : T.tab ("stepped" : Str) = some ⟨1, 2, T.sem d_stepped⟩).trans (by rw [sem_stepped])
def m_folded : SS := (ssCons (ssIf (stCmp cpEq (sOp opIx (sOp opIx (sVar 0) (sK (.int 1))) (sK (.int 0))) (sK (.str ("nil" : Str)))) (ssCons (ssRet (sOp opIx (sVar 0) (sK (.int 2)))) ssNil) ssNil) (ssCons (ssSet (.tp [2, 3]) (sSl (sOp opIx (sVar 0) (sK (.int 1))) (soSome (sK (.int 1))) soNo)) (ssCons (ssSet (.nm 0) (sCall ("apart_from" : Str) (sCons (sVar 0) (sCons (sOp opAdd (sCall ("free_in" : Str) (sCons (sVar 2) sNil)) (sCall ("free_in" : Str) (sCons (sOp opIx (sVar 0) (sK (.int 2))) sNil))) sNil)))) (ssCons (ssSet (.nm 1) (sCall ("replaced" : Str) (sCons (sCall ("replaced" : Str) (sCons (sOp opIx (sVar 0) (sK (.int 5))) (sCons (sOp opIx (sVar 0) (sK (.int 3))) (sCons (sVar 2) sNil)))) (sCons (sOp opIx (sVar 0) (sK (.int 4))) (sCons (sOp opIx (sVar 0) (sK (.int 2))) sNil))))) (ssCons (ssRet (sOp opAdd (sApp sTup (sCons (sK (.str ("fold" : Str))) (sCons (sVar 3) (sCons (sVar 1) sNil)))) (sSl (sVar 0) (soSome (sK (.int 3))) soNo))) ssNil)))))
theorem sem_folded : T.sem d_folded = m_folded := by kernel_rfl
theorem tab_folded : T.tab ("folded" : Str) = some ⟨1, 4, m_folded⟩ := (by kernel_rfl : T.tab ("folded" : Str) = some ⟨1, 4, T.sem d_folded⟩).trans (by rw [sem_folded])
def m_looped : SS := (ssCons (ssIf (stCmp cpLt (sOp opIx (sOp opIx (sVar 0) (sK (.int 1))) (sK (.int 1))) (sK (.int 1))) (ssCons (ssRet (sOp opIx (sVar 0) (sK (.int 2)))) ssNil) ssNil) (ssCons (ssRet (sOp opAdd (sApp sTup (sCons (sK (.str ("loop" : Str))) (sCons (sApp sTup (sCons (sK (.str ("num" : Str))) (sCons (sOp opSub (sOp opIx (sOp opIx (sVar 0) (sK (.int 1))) (sK (.int 1))) (sK (.int 1))) sNil))) (sCons (sCall ("replaced" : Str) (sCons (sOp opIx (sVar 0) (sK (.int 4))) (sCons (sOp opIx (sVar 0) (sK (.int 3))) (sCons (sOp opIx (sVar 0) (sK (.int 2))) sNil)))) sNil)))) (sSl (sVar 0) (soSome (sK (.int 3))) soNo))) ssNil))
theorem sem_looped : T.sem d_looped = m_looped := by kernel_rfl
theorem tab_looped : T.tab ("looped" : Str) = some ⟨1, 1, m_looped⟩ := (by kernel_rfl : T.tab ("looped" : Str) = some ⟨1, 1, T.sem d_looped⟩).trans (by rw [sem_looped])
def b__law_draws_1 : SS := (ssCons (ssSet (.nm 3) (sOp opMod (sApp (one biInt) (sCons (sOp opAdd (sOp opAdd (sOp opMul (sVar 3) (sK (.int 16807))) (sVar 4)) (sK (.int 1))) sNil)) (sK (.int 65537)))) (ssCons (ssExpr (sMeth isL mAppend (sVar 2) (sCons (sOp opMod (sApp (one biInt) (sCons (sVar 3) sNil)) (sK (.int 997))) sNil))) ssNil))
def b__law_draws_2 : SS := (ssCons (ssIf (stCmp cpGt (sVar 6) (sK (.int 0))) (ssCons (ssExpr (sMeth isL mAppend (sVar 2) (sCons (sOp opMod (sApp (one biInt) (sCons (sVar 6) sNil)) (sK (.int 997))) sNil))) (ssCons (ssSet (.nm 6) (sOp opDiv (sVar 6) (sK (.int 997)))) ssNil)) ssNil) ssNil)
def b__law_draws_3 : SS := (ssCons (ssSet (.nm 5) (sApp (one biAbs) (sCons (sApp (one biInt) (sCons (sOp opIx (sVar 0) (sVar 4)) sNil)) sNil))) (ssCons (ssSet (.nm 3) (sOp opMod (sApp (one biInt) (sCons (sOp opAdd (sOp opAdd (sOp opMul (sVar 3) (sK (.int 48271))) (sOp opMod (sVar 5) (sK (.int 1000003)))) (sVar 4)) sNil)) (sK (.int 65537)))) (ssCons (ssSet (.nm 6) (sK (.int 0))) (ssCons (ssIf (stCmp cpGe (sVar 5) (sOp opPow (sK (.int 10)) (sK (.int 18)))) (ssCons (ssSet (.nm 6) (sVar 5)) ssNil) (ssCons (ssExpr (sMeth isL mAppend (sVar 2) (sCons (sOp opMod (sApp (one biInt) (sCons (sVar 5) sNil)) (sK (.int 997))) sNil))) (ssCons (ssExpr (sMeth isL mAppend (sVar 2) (sCons (sOp opMod (sOp opMod (sApp (one biInt) (sCons (sOp opAdd (sOp opMul (sVar 3) (sK (.int 69621))) (sK (.int 5))) sNil)) (sK (.int 65521))) (sK (.int 997))) sNil))) ssNil))) (ssCons (ssFor (siRange1 (sCons (sK (.int 60)) sNil)) (.nm 7) b__law_draws_2) ssNil)))))
def m__law_draws : SS := (ssCons (ssSet (.nm 2) (sApp (mkL true) sNil)) (ssCons (ssSet (.nm 3) (sK (.int 7))) (ssCons (ssFor (siRange1 (sCons (sApp (one biLen) (sCons (sVar 0) sNil)) sNil)) (.nm 4) b__law_draws_3) (ssCons (ssFor (siRange1 (sCons (sVar 1) sNil)) (.nm 4) b__law_draws_1) (ssCons (ssRet (sSl (sVar 2) soNo (soSome (sVar 1)))) ssNil)))))
theorem sem__law_draws : T.sem d__law_draws = m__law_draws := by kernel_rfl
theorem tab__law_draws : T.tab ("_law_draws" : Str) = some ⟨2, 8, m__law_draws⟩ := (by kernel_rfl : T.tab ("_law_draws" : Str) = some ⟨2, 8, T.sem d__law_draws⟩).trans (by rw [sem__law_draws])
def m__law_next : SS := (ssCons (ssAugIx (sVar 0) (sK (.str ("at" : Str))) opIAdd (sK (.int 1))) (ssCons (ssIf (stCmp cpGt (sOp opIx (sVar 0) (sK (.str ("at" : Str)))) (sApp (one biLen) (sCons (sOp opIx (sVar 0) (sK (.str ("draws" : Str)))) sNil))) (ssCons (ssRet (sK (.int 0))) ssNil) ssNil) (ssCons (ssRet (sOp opMod (sApp (one biInt) (sCons (sOp opIx (sOp opIx (sVar 0) (sK (.str ("draws" : Str)))) (sOp opSub (sOp opIx (sVar 0) (sK (.str ("at" : Str)))) (sK (.int 1)))) sNil)) (sVar 1))) ssNil)))
theorem sem__law_next : T.sem d__law_next = m__law_next := by kernel_rfl
theorem tab__law_next : T.tab ("_law_next" : Str) = some ⟨2, 2, m__law_next⟩ := (by kernel_rfl : T.tab ("_law_next" : Str) = some ⟨2, 2, T.sem d__law_next⟩).trans (by rw [sem__law_next])
def m__law_pick : SS := (ssCons (ssRet (sOp opIx (sVar 1) (sCall ("_law_next" : Str) (sCons (sVar 0) (sCons (sApp (one biLen) (sCons (sVar 1) sNil)) sNil))))) ssNil)
theorem sem__law_pick : T.sem d__law_pick = m__law_pick := by kernel_rfl
theorem tab__law_pick : T.tab ("_law_pick" : Str) = some ⟨2, 2, m__law_pick⟩ := (by kernel_rfl : T.tab ("_law_pick" : Str) = some ⟨2, 2, T.sem d__law_pick⟩).trans (by rw [sem__law_pick])
def m__law_parts : SS := (ssCons (ssSet (.nm 1) (sOp opIx (sVar 0) (sK (.int 0)))) (ssCons (ssIf (stCmp cpIn (sVar 1) (sApp sTup (sCons (sK (.str ("num" : Str))) (sCons (sK (.str ("var" : Str))) (sCons (sK (.str ("nil" : Str))) sNil))))) (ssCons (ssRet (sApp sTup sNil)) ssNil) ssNil) (ssCons (ssIf (stCmp cpIn (sVar 1) (sApp sTup (sCons (sK (.str ("fun" : Str))) (sCons (sK (.str ("op" : Str))) (sCons (sK (.str ("let" : Str))) sNil))))) (ssCons (ssRet (sSl (sVar 0) (soSome (sK (.int 2))) soNo)) ssNil) ssNil) (ssCons (ssRet (sIfE (stCmp cpIn (sVar 1) (sApp sTup (sCons (sK (.str ("fold" : Str))) (sCons (sK (.str ("loop" : Str))) sNil)))) (sApp sTup (sCons (sOp opIx (sVar 0) (sK (.int 1))) (sCons (sOp opIx (sVar 0) (sK (.int 2))) (sCons (sOp opIx (sVar 0) (sUn opNeg (sK (.int 1)))) sNil)))) (sSl (sVar 0) (soSome (sK (.int 1))) soNo))) ssNil))))
theorem sem__law_parts : T.sem d__law_parts = m__law_parts := by kernel_rfl
theorem tab__law_parts : T.tab ("_law_parts" : Str) = some ⟨1, 2, m__law_parts⟩ := (by kernel_rfl : T.tab ("_law_parts" : Str) = some ⟨1, 2, T.sem d__law_parts⟩).trans (by rw [sem__law_parts])
def m__law_binds : SS := (ssCons (ssPar [2, 3] (sCons (sOp opIx (sVar 0) (sK (.int 0))) (sCons (sApp (one biLen) (sCons (sCall ("_law_parts" : Str) (sCons (sVar 0) sNil)) sNil)) sNil))) (ssCons (ssSet (.nm 1) (sIfE (stCmp cpIn (sVar 2) (sApp sTup (sCons (sK (.str ("fun" : Str))) (sCons (sK (.str ("let" : Str))) sNil)))) (sApp sTup (sCons (sOp opIx (sVar 0) (sK (.int 1))) sNil)) (sIfE (stCmp cpIn (sVar 2) (sApp sTup (sCons (sK (.str ("fold" : Str))) (sCons (sK (.str ("loop" : Str))) sNil)))) (sSl (sVar 0) (soSome (sK (.int 3))) (soSome (sUn opNeg (sK (.int 1))))) (sApp sTup sNil)))) (ssCons (ssRet (sIfE (stCmp cpGt (sVar 3) (sK (.int 0))) (sOp opAdd (sOp opMul (sApp sTup (sCons (sApp sTup sNil) sNil)) (sOp opSub (sVar 3) (sK (.int 1)))) (sApp sTup (sCons (sApp (one biTuple) (sCons (sVar 1) sNil)) sNil))) (sApp sTup sNil))) ssNil)))
theorem sem__law_binds : T.sem d__law_binds = m__law_binds := by kernel_rfl
theorem tab__law_binds : T.tab ("_law_binds" : Str) = some ⟨1, 4, m__law_binds⟩ := (by kernel_rfl : T.tab ("_law_binds" : Str) = some ⟨1, 4, T.sem d__law_binds⟩).trans (by rw [sem__law_binds])
def b__law_within_1 : SS := (ssCons (ssSet (.nm 1) (sOp opAdd (sVar 1) (sCall ("_law_within" : Str) (sCons (sVar 2) sNil)))) ssNil)
def m__law_within : SS := (ssCons (ssSet (.nm 1) (sApp (mkL false) (sCons (sVar 0) sNil))) (ssCons (ssFor (siSeq (sCall ("_law_parts" : Str) (sCons (sVar 0) sNil))) (.nm 2) b__law_within_1) (ssCons (ssRet (sVar 1)) ssNil)))
theorem sem__law_within : T.sem d__law_within = m__law_within := by kernel_rfl
theorem tab__law_within : T.tab ("_law_within" : Str) = some ⟨1, 3, m__law_within⟩ := (by kernel_rfl : T.tab ("_law_within" : Str) = some ⟨1, 3, T.sem d__law_within⟩).trans (by rw [sem__law_within])
def b__law_ways_1 : SS := (ssCons (ssSet (.nm 2) (sOp opAdd (sVar 2) (sComp false (siSeq (sCall ("_law_ways" : Str) (sCons (sOp opIx (sVar 3) (sVar 1)) sNil))) (.nm 4) [4] stYes (sOp opAdd (sApp sTup (sCons (sVar 1) sNil)) (sVar 4))))) ssNil)
def m__law_ways : SS := (ssCons (ssPar [2, 3] (sCons (sApp (mkL false) (sCons (sApp sTup sNil) sNil)) (sCons (sCall ("_law_parts" : Str) (sCons (sVar 0) sNil)) sNil))) (ssCons (ssFor (siRange1 (sCons (sApp (one biLen) (sCons (sVar 3) sNil)) sNil)) (.nm 1) b__law_ways_1) (ssCons (ssRet (sVar 2)) ssNil)))
theorem sem__law_ways : T.sem d__law_ways = m__law_ways := by kernel_rfl
theorem tab__law_ways : T.tab ("_law_ways" : Str) = some ⟨1, 5, m__law_ways⟩ := (by kernel_rfl : T.tab ("_law_ways" : Str) = some ⟨1, 5, T.sem d__law_ways⟩).trans (by rw [sem__law_ways])
def b__law_free_1 : SS := (ssCons (ssSet (.nm 2) (sOp opAdd (sVar 2) (sComp false (siSeq (sCall ("_law_free" : Str) (sCons (sOp opIx (sVar 3) (sVar 1)) sNil))) (.nm 5) [5] (stCmp cpNotIn (sVar 5) (sOp opIx (sVar 4) (sVar 1))) (sVar 5)))) ssNil)
def m__law_free : SS := (ssCons (ssIf (stCmp cpEq (sOp opIx (sVar 0) (sK (.int 0))) (sK (.str ("var" : Str)))) (ssCons (ssRet (sApp (mkL false) (sCons (sOp opIx (sVar 0) (sK (.int 1))) sNil))) ssNil) ssNil) (ssCons (ssSet (.tp [2, 3, 4]) (sApp sTup (sCons (sApp (mkL false) sNil) (sCons (sCall ("_law_parts" : Str) (sCons (sVar 0) sNil)) (sCons (sCall ("_law_binds" : Str) (sCons (sVar 0) sNil)) sNil))))) (ssCons (ssFor (siRange1 (sCons (sApp (one biLen) (sCons (sVar 3) sNil)) sNil)) (.nm 1) b__law_free_1) (ssCons (ssRet (sUn biSortSet (sVar 2))) ssNil))))
theorem sem__law_free : T.sem d__law_free = m__law_free := by kernel_rfl
theorem tab__law_free : T.tab ("_law_free" : Str) = some ⟨1, 6, m__law_free⟩ := (by kernel_rfl : T.tab ("_law_free" : Str) = some ⟨1, 6, T.sem d__law_free⟩).trans (by rw [sem__law_free])
def m__law_bare : SS := (ssCons (ssIf (stCmp cpEq (sOp opIx (sVar 0) (sK (.int 0))) (sK (.str ("var" : Str)))) (ssCons (ssSet (.nm 3) (sComp false (siRange1 (sCons (sApp (one biLen) (sCons (sVar 1) sNil)) sNil)) (.nm 6) [6] (stCmp cpEq (sOp opIx (sVar 1) (sVar 6)) (sOp opIx (sVar 0) (sK (.int 1)))) (sVar 6))) (ssCons (ssRet (sIfE (stCmp cpNe (sVar 3) (sApp (mkL false) sNil)) (sApp sTup (sCons (sK (.str ("var" : Str))) (sCons (sOp opSub (sOp opSub (sApp (one biLen) (sCons (sVar 1) sNil)) (sK (.int 1))) (sOp opIx (sVar 3) (sUn opNeg (sK (.int 1))))) sNil))) (sVar 0))) ssNil)) ssNil) (ssCons (ssSet (.tp [4, 5]) (sApp sTup (sCons (sCall ("_law_parts" : Str) (sCons (sVar 0) sNil)) (sCons (sCall ("_law_binds" : Str) (sCons (sVar 0) sNil)) sNil)))) (ssCons (ssSet (.nm 2) (sIfE (stCmp cpIn (sOp opIx (sVar 0) (sK (.int 0))) (sApp sTup (sCons (sK (.str ("num" : Str))) (sCons (sK (.str ("op" : Str))) sNil)))) (sOp opIx (sVar 0) (sK (.int 1))) (sK (.str ("" : Str))))) (ssCons (ssRet (sApp sTup (sCons (sOp opIx (sVar 0) (sK (.int 0))) (sCons (sVar 2) (sCons (sApp (one biTuple) (sCons (sComp false (siSeq (sVar 5)) (.nm 7) [7] stYes (sApp (one biLen) (sCons (sVar 7) sNil))) sNil)) (sCons (sApp (one biTuple) (sCons (sComp false (siRange1 (sCons (sApp (one biLen) (sCons (sVar 4) sNil)) sNil)) (.nm 6) [6] stYes (sCall ("_law_bare" : Str) (sCons (sOp opIx (sVar 4) (sVar 6)) (sCons (sOp opAdd (sVar 1) (sOp opIx (sVar 5) (sVar 6))) sNil)))) sNil)) sNil)))))) ssNil))))
theorem sem__law_bare : T.sem d__law_bare = m__law_bare := by kernel_rfl
theorem tab__law_bare : T.tab ("_law_bare" : Str) = some ⟨2, 8, m__law_bare⟩ := (by kernel_rfl : T.tab ("_law_bare" : Str) = some ⟨2, 8, T.sem d__law_bare⟩).trans (by rw [sem__law_bare])
def m__law_alike : SS := (ssCons (ssRet (sOp (opC cpEq) (sCall ("_law_bare" : Str) (sCons (sVar 0) (sCons (sApp sTup sNil) sNil))) (sCall ("_law_bare" : Str) (sCons (sVar 1) (sCons (sApp sTup sNil) sNil))))) ssNil)
theorem sem__law_alike : T.sem d__law_alike = m__law_alike := by kernel_rfl
theorem tab__law_alike : T.tab ("_law_alike" : Str) = some ⟨2, 2, m__law_alike⟩ := (by kernel_rfl : T.tab ("_law_alike" : Str) = some ⟨2, 2, T.sem d__law_alike⟩).trans (by rw [sem__law_alike])
def m__law_wild : SS := (ssCons (ssPar [2, 3] (sCons (sIfE (stCmp cpGt (sVar 1) (sK (.int 0))) (sCall ("_law_next" : Str) (sCons (sVar 0) (sCons (sK (.int 9)) sNil))) (sK (.int 8))) (sCons (sCall ("_law_pick" : Str) (sCons (sVar 0) (sCons (sApp (mkL false) (sCons (sK (.str ("x" : Str))) (sCons (sK (.str ("y" : Str))) (sCons (sK (.str ("za" : Str))) sNil)))) sNil))) sNil))) (ssCons (ssIf (stCmp cpIn (sVar 2) (sApp sTup (sCons (sK (.int 0)) (sCons (sK (.int 1)) sNil)))) (ssCons (ssRet (sApp sTup (sCons (sK (.str ("fun" : Str))) (sCons (sVar 3) (sCons (sCall ("_law_wild" : Str) (sCons (sVar 0) (sCons (sOp opSub (sVar 1) (sK (.int 1))) sNil))) sNil))))) ssNil) ssNil) (ssCons (ssIf (stCmp cpEq (sVar 2) (sK (.int 2))) (ssCons (ssRet (sApp sTup (sCons (sK (.str ("let" : Str))) (sCons (sVar 3) (sCons (sCall ("_law_wild" : Str) (sCons (sVar 0) (sCons (sOp opSub (sVar 1) (sK (.int 1))) sNil))) (sCons (sCall ("_law_wild" : Str) (sCons (sVar 0) (sCons (sOp opSub (sVar 1) (sK (.int 1))) sNil))) sNil)))))) ssNil) ssNil) (ssCons (ssIf (stCmp cpEq (sVar 2) (sK (.int 3))) (ssCons (ssRet (sApp sTup (sCons (sK (.str ("fold" : Str))) (sCons (sCall ("_law_wild" : Str) (sCons (sVar 0) (sCons (sOp opSub (sVar 1) (sK (.int 1))) sNil))) (sCons (sCall ("_law_wild" : Str) (sCons (sVar 0) (sCons (sOp opSub (sVar 1) (sK (.int 1))) sNil))) (sCons (sVar 3) (sCons (sIfE (stCmp cpEq (sVar 3) (sK (.str ("y" : Str)))) (sK (.str ("zb" : Str))) (sK (.str ("y" : Str)))) (sCons (sCall ("_law_wild" : Str) (sCons (sVar 0) (sCons (sOp opSub (sVar 1) (sK (.int 1))) sNil))) sNil)))))))) ssNil) ssNil) (ssCons (ssIf (stCmp cpEq (sVar 2) (sK (.int 4))) (ssCons (ssRet (sApp sTup (sCons (sK (.str ("loop" : Str))) (sCons (sCall ("_law_wild" : Str) (sCons (sVar 0) (sCons (sOp opSub (sVar 1) (sK (.int 1))) sNil))) (sCons (sCall ("_law_wild" : Str) (sCons (sVar 0) (sCons (sOp opSub (sVar 1) (sK (.int 1))) sNil))) (sCons (sVar 3) (sCons (sCall ("_law_wild" : Str) (sCons (sVar 0) (sCons (sOp opSub (sVar 1) (sK (.int 1))) sNil))) sNil))))))) ssNil) ssNil) (ssCons (ssIf (stCmp cpIn (sVar 2) (sApp sTup (sCons (sK (.int 5)) (sCons (sK (.int 6)) sNil)))) (ssCons (ssRet (sApp sTup (sCons (sK (.str ("app" : Str))) (sCons (sCall ("_law_wild" : Str) (sCons (sVar 0) (sCons (sOp opSub (sVar 1) (sK (.int 1))) sNil))) (sCons (sCall ("_law_wild" : Str) (sCons (sVar 0) (sCons (sOp opSub (sVar 1) (sK (.int 1))) sNil))) sNil))))) ssNil) ssNil) (ssCons (ssRet (sIfE (stCmp cpEq (sVar 2) (sK (.int 7))) (sApp sTup (sCons (sCall ("_law_pick" : Str) (sCons (sVar 0) (sCons (sApp (mkL false) (sCons (sK (.str ("quote" : Str))) (sCons (sK (.str ("splice" : Str))) (sCons (sK (.str ("lift" : Str))) sNil)))) sNil))) (sCons (sCall ("_law_wild" : Str) (sCons (sVar 0) (sCons (sOp opSub (sVar 1) (sK (.int 1))) sNil))) sNil))) (sApp sTup (sCons (sK (.str ("var" : Str))) (sCons (sCall ("_law_pick" : Str) (sCons (sVar 0) (sCons (sApp (mkL false) (sCons (sK (.str ("x" : Str))) (sCons (sK (.str ("y" : Str))) (sCons (sK (.str ("za" : Str))) (sCons (sK (.str ("zb" : Str))) (sCons (sK (.str ("q" : Str))) sNil)))))) sNil))) sNil))))) ssNil)))))))
theorem sem__law_wild : T.sem d__law_wild = m__law_wild := by kernel_rfl
theorem tab__law_wild : T.tab ("_law_wild" : Str) = some ⟨2, 4, m__law_wild⟩ := (by kernel_rfl : T.tab ("_law_wild" : Str) = some ⟨2, 4, T.sem d__law_wild⟩).trans (by rw [sem__law_wild])
def m__law_put : SS := (ssCons (ssIf (stCmp cpEq (sOp opIx (sVar 0) (sK (.int 0))) (sK (.str ("var" : Str)))) (ssCons (ssRet (sIfE (stCmp cpEq (sOp opIx (sVar 0) (sK (.int 1))) (sVar 1)) (sVar 2) (sVar 0))) ssNil) ssNil) (ssCons (ssRet (sOp opAdd (sSl (sVar 0) soNo (soSome (sK (.int 3)))) (sApp sTup (sCons (sApp (one biTuple) (sCons (sComp false (siSeq (sOp opIx (sVar 0) (sK (.int 3)))) (.nm 4) [4] stYes (sCall ("_law_put" : Str) (sCons (sVar 4) (sCons (sVar 1) (sCons (sVar 2) (sCons (sVar 3) sNil)))))) sNil)) sNil)))) ssNil))
theorem sem__law_put : T.sem d__law_put = m__law_put := by kernel_rfl
theorem tab__law_put : T.tab ("_law_put" : Str) = some ⟨4, 5, m__law_put⟩ := (by kernel_rfl : T.tab ("_law_put" : Str) = some ⟨4, 5, T.sem d__law_put⟩).trans (by rw [sem__law_put])
def b__law_bound_1 : SS := (ssCons (ssSet (.nm 2) (sOp opAdd (sOp opAdd (sVar 2) (sApp (one (biList false)) (sCons (sOp opIx (sVar 4) (sVar 1)) sNil))) (sCall ("_law_bound" : Str) (sCons (sOp opIx (sVar 3) (sVar 1)) sNil)))) ssNil)
def m__law_bound : SS := (ssCons (ssPar [2, 3, 4] (sCons (sApp (mkL false) sNil) (sCons (sCall ("_law_parts" : Str) (sCons (sVar 0) sNil)) (sCons (sCall ("_law_binds" : Str) (sCons (sVar 0) sNil)) sNil)))) (ssCons (ssFor (siRange1 (sCons (sApp (one biLen) (sCons (sVar 3) sNil)) sNil)) (.nm 1) b__law_bound_1) (ssCons (ssRet (sVar 2)) ssNil)))
theorem sem__law_bound : T.sem d__law_bound = m__law_bound := by kernel_rfl
theorem tab__law_bound : T.tab ("_law_bound" : Str) = some ⟨1, 5, m__law_bound⟩ := (by kernel_rfl : T.tab ("_law_bound" : Str) = some ⟨1, 5, T.sem d__law_bound⟩).trans (by rw [sem__law_bound])
def b_law_1 : SS := (ssCons (ssPar [9, 10, 11] (sCons (sCall ("_law_wild" : Str) (sCons (sVar 1) (sCons (sK (.int 3)) sNil))) (sCons (sCall ("_law_wild" : Str) (sCons (sVar 1) (sCons (sK (.int 2)) sNil))) (sCons (sCall ("_law_wild" : Str) (sCons (sVar 1) (sCons (sK (.int 3)) sNil))) sNil)))) (ssCons (ssSet (.nm 4) (sCall ("_law_pick" : Str) (sCons (sVar 1) (sCons (sApp (mkL false) (sCons (sK (.str ("x" : Str))) (sCons (sK (.str ("y" : Str))) (sCons (sK (.str ("za" : Str))) (sCons (sK (.str ("zb" : Str))) (sCons (sK (.str ("q" : Str))) sNil)))))) sNil)))) (ssCons (ssSet (.nm 5) (sCall ("replaced" : Str) (sCons (sVar 9) (sCons (sVar 4) (sCons (sVar 10) sNil))))) (ssCons (ssIf (stCmp cpNe (sCall ("_law_bare" : Str) (sCons (sVar 5) (sCons (sApp sTup sNil) sNil))) (sCall ("_law_put" : Str) (sCons (sCall ("_law_bare" : Str) (sCons (sVar 9) (sCons (sApp sTup sNil) sNil))) (sCons (sVar 4) (sCons (sCall ("_law_bare" : Str) (sCons (sVar 10) (sCons (sApp sTup sNil) sNil))) (sCons (sK (.int 0)) sNil)))))) (ssCons (ssRet (sK (.bl false))) ssNil) ssNil) (ssCons (ssIf (stOr (stAnd (stCmp cpNotIn (sVar 4) (sCall ("_law_free" : Str) (sCons (sVar 9) sNil))) (stCmp cpNe (sVar 5) (sVar 9))) (stCmp cpNe (sCall ("free_in" : Str) (sCons (sVar 5) sNil)) (sApp (one biTuple) (sCons (sUn biSortSet (sOp opAdd (sComp false (siSeq (sCall ("_law_free" : Str) (sCons (sVar 9) sNil))) (.nm 12) [12] (stCmp cpNe (sVar 12) (sVar 4)) (sVar 12)) (sIfE (stCmp cpIn (sVar 4) (sCall ("_law_free" : Str) (sCons (sVar 9) sNil))) (sCall ("_law_free" : Str) (sCons (sVar 10) sNil)) (sApp (mkL false) sNil)))) sNil)))) (ssCons (ssRet (sK (.bl false))) ssNil) ssNil) (ssCons (ssSet (.nm 6) (sCall ("_law_pick" : Str) (sCons (sVar 1) (sCons (sApp (mkL false) (sCons (sK (.str ("za" : Str))) (sCons (sK (.str ("r" : Str))) (sCons (sK (.str ("x" : Str))) sNil)))) sNil)))) (ssCons (ssIf (stOr (stCmp cpNe (sCall ("renamed" : Str) (sCons (sVar 9) (sCons (sDisp false [((sVar 4), (sVar 6))]) sNil))) (sCall ("replaced" : Str) (sCons (sVar 9) (sCons (sVar 4) (sCons (sApp sTup (sCons (sK (.str ("var" : Str))) (sCons (sVar 6) sNil))) sNil))))) (stCmp cpNe (sCall ("renamed" : Str) (sCons (sVar 9) (sCons (sDisp false [((sK (.str ("q" : Str))), (sK (.str ("x" : Str)))), ((sK (.str ("y" : Str))), (sK (.str ("q" : Str))))]) sNil))) (sCall ("replaced" : Str) (sCons (sCall ("replaced" : Str) (sCons (sVar 9) (sCons (sK (.str ("q" : Str))) (sCons (sApp sTup (sCons (sK (.str ("var" : Str))) (sCons (sK (.str ("x" : Str))) sNil))) sNil)))) (sCons (sK (.str ("y" : Str))) (sCons (sApp sTup (sCons (sK (.str ("var" : Str))) (sCons (sK (.str ("q" : Str))) sNil))) sNil)))))) (ssCons (ssRet (sK (.bl false))) ssNil) ssNil) (ssCons (ssIf (stOr (stCmp cpNe (sOp (opC cpIs) (sCall ("same_terms" : Str) (sCons (sVar 9) (sCons (sVar 11) sNil))) (sK (.bl true))) (sCall ("_law_alike" : Str) (sCons (sVar 9) (sCons (sVar 11) sNil)))) (stCmp cpNe (sOp (opC cpEq) (sCall ("tidy" : Str) (sCons (sVar 9) sNil)) (sCall ("tidy" : Str) (sCons (sVar 11) sNil))) (sCall ("_law_alike" : Str) (sCons (sVar 9) (sCons (sVar 11) sNil))))) (ssCons (ssRet (sK (.bl false))) ssNil) ssNil) (ssCons (ssIf (stOr (stNot (stTru (sCall ("_law_alike" : Str) (sCons (sCall ("tidy" : Str) (sCons (sVar 9) sNil)) (sCons (sVar 9) sNil))))) (stOr (stCmp cpNe (sCall ("tidy" : Str) (sCons (sCall ("tidy" : Str) (sCons (sVar 9) sNil)) sNil)) (sCall ("tidy" : Str) (sCons (sVar 9) sNil))) (stCmp cpIsNot (sCall ("is_apart" : Str) (sCons (sCall ("tidy" : Str) (sCons (sVar 9) sNil)) sNil)) (sK (.bl true))))) (ssCons (ssRet (sK (.bl false))) ssNil) ssNil) (ssCons (ssSet (.nm 7) (sCall ("_law_bound" : Str) (sCons (sVar 9) sNil))) (ssCons (ssIf (stOr (stCmp cpNe (sCall ("bound_in" : Str) (sCons (sVar 9) sNil)) (sVar 7)) (stCmp cpNe (sOp (opC cpIs) (sCall ("is_apart" : Str) (sCons (sVar 9) sNil)) (sK (.bl true))) (sAndE (sOp (opC cpEq) (sUn biLenSet (sVar 7)) (sApp (one biLen) (sCons (sVar 7) sNil))) (sOp (opC cpEq) (sComp false (siSeq (sCall ("_law_free" : Str) (sCons (sVar 9) sNil))) (.nm 12) [12] (stCmp cpIn (sVar 12) (sVar 7)) (sVar 12)) (sApp (mkL false) sNil))))) (ssCons (ssRet (sK (.bl false))) ssNil) ssNil) (ssCons (ssSet (.nm 8) (sApp sTup (sCons (sK (.str ("app" : Str))) (sCons (sApp sTup (sCons (sK (.str ("fun" : Str))) (sCons (sVar 4) (sCons (sVar 9) sNil)))) (sCons (sVar 10) sNil))))) (ssCons (ssIf (stOr (stCmp cpNe (sCall ("stepped" : Str) (sCons (sVar 8) sNil)) (sVar 5)) (stCmp cpNe (sCall ("stepped" : Str) (sCons (sApp sTup (sCons (sK (.str ("let" : Str))) (sCons (sVar 4) (sCons (sVar 10) (sCons (sVar 9) sNil))))) sNil)) (sVar 5))) (ssCons (ssRet (sK (.bl false))) ssNil) ssNil) ssNil)))))))))))))
def m_law : SS := (ssCons (ssSet (.nm 1) (sDisp true [((sK (.str ("draws" : Str))), (sCall ("_law_draws" : Str) (sCons (sVar 0) (sCons (sK (.int 700)) sNil)))), ((sK (.str ("at" : Str))), (sK (.int 0)))])) (ssCons (ssFor (siRange1 (sCons (sK (.int 12)) sNil)) (.nm 2) b_law_1) (ssCons (ssSet (.nm 3) (sApp sTup (sCons (sK (.str ("fun" : Str))) (sCons (sK (.str ("y" : Str))) (sCons (sApp sTup (sCons (sK (.str ("app" : Str))) (sCons (sApp sTup (sCons (sK (.str ("var" : Str))) (sCons (sK (.str ("x" : Str))) sNil))) (sCons (sApp sTup (sCons (sK (.str ("var" : Str))) (sCons (sK (.str ("y" : Str))) sNil))) sNil)))) sNil))))) (ssCons (ssRet (sAndE (sOp (opC cpEq) (sCall ("replaced" : Str) (sCons (sVar 3) (sCons (sK (.str ("x" : Str))) (sCons (sApp sTup (sCons (sK (.str ("var" : Str))) (sCons (sK (.str ("y" : Str))) sNil))) sNil)))) (sApp sTup (sCons (sK (.str ("fun" : Str))) (sCons (sK (.str ("za" : Str))) (sCons (sApp sTup (sCons (sK (.str ("app" : Str))) (sCons (sApp sTup (sCons (sK (.str ("var" : Str))) (sCons (sK (.str ("y" : Str))) sNil))) (sCons (sApp sTup (sCons (sK (.str ("var" : Str))) (sCons (sK (.str ("za" : Str))) sNil))) sNil)))) sNil))))) (sOp (opC cpIs) (sCall ("same_terms" : Str) (sCons (sVar 3) (sCons (sApp sTup (sCons (sK (.str ("fun" : Str))) (sCons (sK (.str ("z" : Str))) (sCons (sApp sTup (sCons (sK (.str ("app" : Str))) (sCons (sApp sTup (sCons (sK (.str ("var" : Str))) (sCons (sK (.str ("x" : Str))) sNil))) (sCons (sApp sTup (sCons (sK (.str ("var" : Str))) (sCons (sK (.str ("z" : Str))) sNil))) sNil)))) sNil)))) sNil))) (sK (.bl true))))) ssNil))))
theorem sem_law : T.sem d_law = m_law := by kernel_rfl
theorem tab_law : T.tab ("law" : Str) = some ⟨1, 13, m_law⟩ := (by kernel_rfl : T.tab ("law" : Str) = some ⟨1, 13, T.sem d_law⟩).trans (by rw [sem_law])
end K05

set_option maxHeartbeats 4000000
/-! K05d: terms as data; what the small defs say of them -/
namespace K05
open PySem Fp
/-- 0: one part; 1: fun; 2: let; 3: app; 4: fold; 5: loop -/
def kind (w : Str) : Nat :=
  if w = ("fun" : Str) then 1 else if w = ("let" : Str) then 2 else if w = ("app" : Str) then 3 else if w = ("fold" : Str) then 4 else if w = ("loop" : Str) then 5 else 0
def enc : Tm → D
  | .nil => .non
  | .var x => .tup [.str "var", .str x]
  | .nd w a b bs c => match kind w with
    | 0 => .tup [.str w, enc c]
    | 1 => .tup (.str w :: (bs.map D.str ++ [enc c]))
    | 2 => .tup (.str w :: (bs.map D.str ++ [enc a, enc c]))
    | 3 => .tup [.str w, enc a, enc c]
    | _ => .tup (.str w :: enc a :: enc b :: (bs.map D.str ++ [enc c]))
/-- the parts of a term, and what is bound in each -/
def rows : Tm → List (Tm × List Str)
  | .nil => []
  | .var _ => []
  | .nd w a b bs c => match kind w with
    | 0 => [(c, bs)]
    | 1 => [(c, bs)]
    | 2 => [(a, []), (c, bs)]
    | 3 => [(a, []), (c, bs)]
    | _ => [(a, []), (b, []), (c, bs)]
inductive WF : Tm → Prop
  | var (x : Str) : WF (.var x)
  | un {w : Str} {c : Tm} (hw : w = ("quote" : Str) ∨ w = ("splice" : Str) ∨ w = ("lift" : Str)) : WF c → WF (.nd w .nil .nil [] c)
  | fn {x : Str} {c : Tm} : WF c → WF (.nd "fun" .nil .nil [x] c)
  | lt {x : Str} {a c : Tm} : WF a → WF c → WF (.nd "let" a .nil [x] c)
  | app {a c : Tm} : WF a → WF c → WF (.nd "app" a .nil [] c)
  | fold {a b c : Tm} {x y : Str} : WF a → WF b → WF c → WF (.nd "fold" a b [x, y] c)
  | loop {a b c : Tm} {x : Str} : WF a → WF b → WF c → WF (.nd "loop" a b [x] c)
theorem refs_enc {k : Nat} : ∀ t : Tm, refsB k (enc t) = true
  | .nil => rfl
  | .var x => rfl
  | .nd w a b bs c => by
    unfold enc
    split <;> simp only [refsB, refsBs, refss_append, refss_strs, refs_enc a, refs_enc b, refs_enc c, Bool.and_true, Bool.true_and]
def encs (bs : List Str) : D := .tup (bs.map D.str)
theorem refs_encs {k : Nat} (bs : List Str) : refsB k (encs bs) = true := refss_strs bs
theorem wds :
    (PyData.strOk ("app" : Str) = true) ∧
    (PyData.strOk ("first" : Str) = true) ∧
    (PyData.strOk ("fold" : Str) = true) ∧
    (PyData.strOk ("fun" : Str) = true) ∧
    (PyData.strOk ("if" : Str) = true) ∧
    (PyData.strOk ("let" : Str) = true) ∧
    (PyData.strOk ("lift" : Str) = true) ∧
    (PyData.strOk ("loop" : Str) = true) ∧
    (PyData.strOk ("nil" : Str) = true) ∧
    (PyData.strOk ("num" : Str) = true) ∧
    (PyData.strOk ("op" : Str) = true) ∧
    (PyData.strOk ("quote" : Str) = true) ∧
    (PyData.strOk ("second" : Str) = true) ∧
    (PyData.strOk ("splice" : Str) = true) ∧
    (PyData.strOk ("var" : Str) = true) ∧
    ((("fun" : Str) == ("app" : Str)) = false) ∧
    ((("app" : Str) == ("fun" : Str)) = false) ∧
    ((("fun" : Str) == ("first" : Str)) = false) ∧
    ((("first" : Str) == ("fun" : Str)) = false) ∧
    ((("fun" : Str) == ("fold" : Str)) = false) ∧
    ((("fold" : Str) == ("fun" : Str)) = false) ∧
    ((("fun" : Str) == ("fun" : Str)) = true) ∧
    ((("fun" : Str) == ("if" : Str)) = false) ∧
    ((("if" : Str) == ("fun" : Str)) = false) ∧
    ((("fun" : Str) == ("let" : Str)) = false) ∧
    ((("let" : Str) == ("fun" : Str)) = false) ∧
    ((("fun" : Str) == ("lift" : Str)) = false) ∧
    ((("lift" : Str) == ("fun" : Str)) = false) ∧
    ((("fun" : Str) == ("loop" : Str)) = false) ∧
    ((("loop" : Str) == ("fun" : Str)) = false) ∧
    ((("fun" : Str) == ("nil" : Str)) = false) ∧
    ((("nil" : Str) == ("fun" : Str)) = false) ∧
    ((("fun" : Str) == ("num" : Str)) = false) ∧
    ((("num" : Str) == ("fun" : Str)) = false) ∧
    ((("fun" : Str) == ("op" : Str)) = false) ∧
    ((("op" : Str) == ("fun" : Str)) = false) ∧
    ((("fun" : Str) == ("quote" : Str)) = false) ∧
    ((("quote" : Str) == ("fun" : Str)) = false) ∧
    ((("fun" : Str) == ("second" : Str)) = false) ∧
    ((("second" : Str) == ("fun" : Str)) = false) ∧
    ((("fun" : Str) == ("splice" : Str)) = false) ∧
    ((("splice" : Str) == ("fun" : Str)) = false) ∧
    ((("fun" : Str) == ("var" : Str)) = false) ∧
    ((("var" : Str) == ("fun" : Str)) = false) ∧
    ((("let" : Str) == ("app" : Str)) = false) ∧
    ((("app" : Str) == ("let" : Str)) = false) ∧
    ((("let" : Str) == ("first" : Str)) = false) ∧
    ((("first" : Str) == ("let" : Str)) = false) ∧
    ((("let" : Str) == ("fold" : Str)) = false) ∧
    ((("fold" : Str) == ("let" : Str)) = false) ∧
    ((("let" : Str) == ("if" : Str)) = false) ∧
    ((("if" : Str) == ("let" : Str)) = false) ∧
    ((("let" : Str) == ("let" : Str)) = true) ∧
    ((("let" : Str) == ("lift" : Str)) = false) ∧
    ((("lift" : Str) == ("let" : Str)) = false) ∧
    ((("let" : Str) == ("loop" : Str)) = false) ∧
    ((("loop" : Str) == ("let" : Str)) = false) ∧
    ((("let" : Str) == ("nil" : Str)) = false) ∧
    ((("nil" : Str) == ("let" : Str)) = false) ∧
    ((("let" : Str) == ("num" : Str)) = false) ∧
    ((("num" : Str) == ("let" : Str)) = false) ∧
    ((("let" : Str) == ("op" : Str)) = false) ∧
    ((("op" : Str) == ("let" : Str)) = false) ∧
    ((("let" : Str) == ("quote" : Str)) = false) ∧
    ((("quote" : Str) == ("let" : Str)) = false) ∧
    ((("let" : Str) == ("second" : Str)) = false) ∧
    ((("second" : Str) == ("let" : Str)) = false) ∧
    ((("let" : Str) == ("splice" : Str)) = false) ∧
    ((("splice" : Str) == ("let" : Str)) = false) ∧
    ((("let" : Str) == ("var" : Str)) = false) ∧
    ((("var" : Str) == ("let" : Str)) = false) ∧
    ((("app" : Str) == ("app" : Str)) = true) ∧
    ((("app" : Str) == ("first" : Str)) = false) ∧
    ((("first" : Str) == ("app" : Str)) = false) ∧
    ((("app" : Str) == ("fold" : Str)) = false) ∧
    ((("fold" : Str) == ("app" : Str)) = false) ∧
    ((("app" : Str) == ("if" : Str)) = false) ∧
    ((("if" : Str) == ("app" : Str)) = false) ∧
    ((("app" : Str) == ("lift" : Str)) = false) ∧
    ((("lift" : Str) == ("app" : Str)) = false) ∧
    ((("app" : Str) == ("loop" : Str)) = false) ∧
    ((("loop" : Str) == ("app" : Str)) = false) ∧
    ((("app" : Str) == ("nil" : Str)) = false) ∧
    ((("nil" : Str) == ("app" : Str)) = false) ∧
    ((("app" : Str) == ("num" : Str)) = false) ∧
    ((("num" : Str) == ("app" : Str)) = false) ∧
    ((("app" : Str) == ("op" : Str)) = false) ∧
    ((("op" : Str) == ("app" : Str)) = false) ∧
    ((("app" : Str) == ("quote" : Str)) = false) ∧
    ((("quote" : Str) == ("app" : Str)) = false) ∧
    ((("app" : Str) == ("second" : Str)) = false) ∧
    ((("second" : Str) == ("app" : Str)) = false) ∧
    ((("app" : Str) == ("splice" : Str)) = false) ∧
    ((("splice" : Str) == ("app" : Str)) = false) ∧
    ((("app" : Str) == ("var" : Str)) = false) ∧
    ((("var" : Str) == ("app" : Str)) = false) ∧
    ((("fold" : Str) == ("first" : Str)) = false) ∧
    ((("first" : Str) == ("fold" : Str)) = false) ∧
    ((("fold" : Str) == ("fold" : Str)) = true) ∧
    ((("fold" : Str) == ("if" : Str)) = false) ∧
    ((("if" : Str) == ("fold" : Str)) = false) ∧
    ((("fold" : Str) == ("lift" : Str)) = false) ∧
    ((("lift" : Str) == ("fold" : Str)) = false) ∧
    ((("fold" : Str) == ("loop" : Str)) = false) ∧
    ((("loop" : Str) == ("fold" : Str)) = false) ∧
    ((("fold" : Str) == ("nil" : Str)) = false) ∧
    ((("nil" : Str) == ("fold" : Str)) = false) ∧
    ((("fold" : Str) == ("num" : Str)) = false) ∧
    ((("num" : Str) == ("fold" : Str)) = false) ∧
    ((("fold" : Str) == ("op" : Str)) = false) ∧
    ((("op" : Str) == ("fold" : Str)) = false) ∧
    ((("fold" : Str) == ("quote" : Str)) = false) ∧
    ((("quote" : Str) == ("fold" : Str)) = false) ∧
    ((("fold" : Str) == ("second" : Str)) = false) ∧
    ((("second" : Str) == ("fold" : Str)) = false) ∧
    ((("fold" : Str) == ("splice" : Str)) = false) ∧
    ((("splice" : Str) == ("fold" : Str)) = false) ∧
    ((("fold" : Str) == ("var" : Str)) = false) ∧
    ((("var" : Str) == ("fold" : Str)) = false) ∧
    ((("loop" : Str) == ("first" : Str)) = false) ∧
    ((("first" : Str) == ("loop" : Str)) = false) ∧
    ((("loop" : Str) == ("if" : Str)) = false) ∧
    ((("if" : Str) == ("loop" : Str)) = false) ∧
    ((("loop" : Str) == ("lift" : Str)) = false) ∧
    ((("lift" : Str) == ("loop" : Str)) = false) ∧
    ((("loop" : Str) == ("loop" : Str)) = true) ∧
    ((("loop" : Str) == ("nil" : Str)) = false) ∧
    ((("nil" : Str) == ("loop" : Str)) = false) ∧
    ((("loop" : Str) == ("num" : Str)) = false) ∧
    ((("num" : Str) == ("loop" : Str)) = false) ∧
    ((("loop" : Str) == ("op" : Str)) = false) ∧
    ((("op" : Str) == ("loop" : Str)) = false) ∧
    ((("loop" : Str) == ("quote" : Str)) = false) ∧
    ((("quote" : Str) == ("loop" : Str)) = false) ∧
    ((("loop" : Str) == ("second" : Str)) = false) ∧
    ((("second" : Str) == ("loop" : Str)) = false) ∧
    ((("loop" : Str) == ("splice" : Str)) = false) ∧
    ((("splice" : Str) == ("loop" : Str)) = false) ∧
    ((("loop" : Str) == ("var" : Str)) = false) ∧
    ((("var" : Str) == ("loop" : Str)) = false) ∧
    ((("quote" : Str) == ("first" : Str)) = false) ∧
    ((("first" : Str) == ("quote" : Str)) = false) ∧
    ((("quote" : Str) == ("if" : Str)) = false) ∧
    ((("if" : Str) == ("quote" : Str)) = false) ∧
    ((("quote" : Str) == ("lift" : Str)) = false) ∧
    ((("lift" : Str) == ("quote" : Str)) = false) ∧
    ((("quote" : Str) == ("nil" : Str)) = false) ∧
    ((("nil" : Str) == ("quote" : Str)) = false) ∧
    ((("quote" : Str) == ("num" : Str)) = false) ∧
    ((("num" : Str) == ("quote" : Str)) = false) ∧
    ((("quote" : Str) == ("op" : Str)) = false) ∧
    ((("op" : Str) == ("quote" : Str)) = false) ∧
    ((("quote" : Str) == ("quote" : Str)) = true) ∧
    ((("quote" : Str) == ("second" : Str)) = false) ∧
    ((("second" : Str) == ("quote" : Str)) = false) ∧
    ((("quote" : Str) == ("splice" : Str)) = false) ∧
    ((("splice" : Str) == ("quote" : Str)) = false) ∧
    ((("quote" : Str) == ("var" : Str)) = false) ∧
    ((("var" : Str) == ("quote" : Str)) = false) ∧
    ((("splice" : Str) == ("first" : Str)) = false) ∧
    ((("first" : Str) == ("splice" : Str)) = false) ∧
    ((("splice" : Str) == ("if" : Str)) = false) ∧
    ((("if" : Str) == ("splice" : Str)) = false) ∧
    ((("splice" : Str) == ("lift" : Str)) = false) ∧
    ((("lift" : Str) == ("splice" : Str)) = false) ∧
    ((("splice" : Str) == ("nil" : Str)) = false) ∧
    ((("nil" : Str) == ("splice" : Str)) = false) ∧
    ((("splice" : Str) == ("num" : Str)) = false) ∧
    ((("num" : Str) == ("splice" : Str)) = false) ∧
    ((("splice" : Str) == ("op" : Str)) = false) ∧
    ((("op" : Str) == ("splice" : Str)) = false) ∧
    ((("splice" : Str) == ("second" : Str)) = false) ∧
    ((("second" : Str) == ("splice" : Str)) = false) ∧
    ((("splice" : Str) == ("splice" : Str)) = true) ∧
    ((("splice" : Str) == ("var" : Str)) = false) ∧
    ((("var" : Str) == ("splice" : Str)) = false) ∧
    ((("lift" : Str) == ("first" : Str)) = false) ∧
    ((("first" : Str) == ("lift" : Str)) = false) ∧
    ((("lift" : Str) == ("if" : Str)) = false) ∧
    ((("if" : Str) == ("lift" : Str)) = false) ∧
    ((("lift" : Str) == ("lift" : Str)) = true) ∧
    ((("lift" : Str) == ("nil" : Str)) = false) ∧
    ((("nil" : Str) == ("lift" : Str)) = false) ∧
    ((("lift" : Str) == ("num" : Str)) = false) ∧
    ((("num" : Str) == ("lift" : Str)) = false) ∧
    ((("lift" : Str) == ("op" : Str)) = false) ∧
    ((("op" : Str) == ("lift" : Str)) = false) ∧
    ((("lift" : Str) == ("second" : Str)) = false) ∧
    ((("second" : Str) == ("lift" : Str)) = false) ∧
    ((("lift" : Str) == ("var" : Str)) = false) ∧
    ((("var" : Str) == ("lift" : Str)) = false) ∧
    ((("var" : Str) == ("first" : Str)) = false) ∧
    ((("first" : Str) == ("var" : Str)) = false) ∧
    ((("var" : Str) == ("if" : Str)) = false) ∧
    ((("if" : Str) == ("var" : Str)) = false) ∧
    ((("var" : Str) == ("nil" : Str)) = false) ∧
    ((("nil" : Str) == ("var" : Str)) = false) ∧
    ((("var" : Str) == ("num" : Str)) = false) ∧
    ((("num" : Str) == ("var" : Str)) = false) ∧
    ((("var" : Str) == ("op" : Str)) = false) ∧
    ((("op" : Str) == ("var" : Str)) = false) ∧
    ((("var" : Str) == ("second" : Str)) = false) ∧
    ((("second" : Str) == ("var" : Str)) = false) ∧
    ((("var" : Str) == ("var" : Str)) = true) :=
  ⟨by kernel_rfl, by kernel_rfl, by kernel_rfl, by kernel_rfl, by kernel_rfl, by kernel_rfl, by kernel_rfl, by kernel_rfl, by kernel_rfl, by kernel_rfl, by kernel_rfl, by kernel_rfl, by kernel_rfl, by kernel_rfl, by kernel_rfl, by kernel_rfl, by kernel_rfl, by kernel_rfl, by kernel_rfl, by kernel_rfl, by kernel_rfl, by kernel_rfl, by kernel_rfl, by kernel_rfl, by kernel_rfl, by kernel_rfl, by kernel_rfl, by kernel_rfl, by kernel_rfl, by kernel_rfl, by kernel_rfl, by kernel_rfl, by kernel_rfl, by kernel_rfl, by kernel_rfl, by kernel_rfl, by kernel_rfl, by kernel_rfl, by kernel_rfl, by kernel_rfl, by kernel_rfl, by kernel_rfl, by kernel_rfl, by kernel_rfl, by kernel_rfl, by kernel_rfl, by kernel_rfl, by kernel_rfl, by kernel_rfl, by kernel_rfl, by kernel_rfl, by kernel_rfl, by kernel_rfl, by kernel_rfl, by kernel_rfl, by kernel_rfl, by kernel_rfl, by kernel_rfl, by kernel_rfl, by kernel_rfl, by kernel_rfl, by kernel_rfl, by kernel_rfl, by kernel_rfl, by kernel_rfl, by kernel_rfl, by kernel_rfl, by kernel_rfl, by kernel_rfl, by kernel_rfl, by kernel_rfl, by kernel_rfl, by kernel_rfl, by kernel_rfl, by kernel_rfl, by kernel_rfl, by kernel_rfl, by kernel_rfl, by kernel_rfl, by kernel_rfl, by kernel_rfl, by kernel_rfl, by kernel_rfl, by kernel_rfl, by kernel_rfl, by kernel_rfl, by kernel_rfl, by kernel_rfl, by kernel_rfl, by kernel_rfl, by kernel_rfl, by kernel_rfl, by kernel_rfl, by kernel_rfl, by kernel_rfl, by kernel_rfl, by kernel_rfl, by kernel_rfl, by kernel_rfl, by kernel_rfl, by kernel_rfl, by kernel_rfl, by kernel_rfl, by kernel_rfl, by kernel_rfl, by kernel_rfl, by kernel_rfl, by kernel_rfl, by kernel_rfl, by kernel_rfl, by kernel_rfl, by kernel_rfl, by kernel_rfl, by kernel_rfl, by kernel_rfl, by kernel_rfl, by kernel_rfl, by kernel_rfl, by kernel_rfl, by kernel_rfl, by kernel_rfl, by kernel_rfl, by kernel_rfl, by kernel_rfl, by kernel_rfl, by kernel_rfl, by kernel_rfl, by kernel_rfl, by kernel_rfl, by kernel_rfl, by kernel_rfl, by kernel_rfl, by kernel_rfl, by kernel_rfl, by kernel_rfl, by kernel_rfl, by kernel_rfl, by kernel_rfl, by kernel_rfl, by kernel_rfl, by kernel_rfl, by kernel_rfl, by kernel_rfl, by kernel_rfl, by kernel_rfl, by kernel_rfl, by kernel_rfl, by kernel_rfl, by kernel_rfl, by kernel_rfl, by kernel_rfl, by kernel_rfl, by kernel_rfl, by kernel_rfl, by kernel_rfl, by kernel_rfl, by kernel_rfl, by kernel_rfl, by kernel_rfl, by kernel_rfl, by kernel_rfl, by kernel_rfl, by kernel_rfl, by kernel_rfl, by kernel_rfl, by kernel_rfl, by kernel_rfl, by kernel_rfl, by kernel_rfl, by kernel_rfl, by kernel_rfl, by kernel_rfl, by kernel_rfl, by kernel_rfl, by kernel_rfl, by kernel_rfl, by kernel_rfl, by kernel_rfl, by kernel_rfl, by kernel_rfl, by kernel_rfl, by kernel_rfl, by kernel_rfl, by kernel_rfl, by kernel_rfl, by kernel_rfl, by kernel_rfl, by kernel_rfl, by kernel_rfl, by kernel_rfl, by kernel_rfl, by kernel_rfl, by kernel_rfl, by kernel_rfl, by kernel_rfl, by kernel_rfl, by kernel_rfl, by kernel_rfl, by kernel_rfl, by kernel_rfl, by kernel_rfl, by kernel_rfl, by kernel_rfl, by kernel_rfl⟩
section
variable {L n : Nat} {m : Mem} {o : Str → List D → Mem → RD}
def partsD (t : Tm) : D := .tup ((rows t).map fun r => enc r.1)
def bindsD (t : Tm) : D := .tup ((rows t).map fun r => encs r.2)
theorem refs_partsD {k : Nat} (t : Tm) : refsB k (partsD t) = true := refss_all fun x hx => by
  obtain ⟨r, _, rfl⟩ := List.mem_map.mp hx
  exact refs_enc _
theorem refs_bindsD {k : Nat} (t : Tm) : refsB k (bindsD t) = true := refss_all fun x hx => by
  obtain ⟨r, _, rfl⟩ := List.mem_map.mp hx
  exact refs_encs _
theorem parts_body {t : Tm} (h : WF t) : m_parts_of ⟨o, L⟩ [some (enc t), none] m = .ok (.ret (partsD t), m) := by
  cases h with
  | var x => kernel_rfl
  | un hw => rcases hw with rfl | rfl | rfl <;> kernel_rfl
  | fn => kernel_rfl
  | lt => kernel_rfl
  | app => kernel_rfl
  | fold => kernel_rfl
  | loop => kernel_rfl
theorem parts_ok {t : Tm} (h : WF t) (hm : Cl m) : callN T.tab L (n + 1) "parts_of" [enc t] m = .ok (partsD t, m) := by
  rw [callN_at tab_parts_of rfl]
  exact fin_same (parts_body h) hm (refs_partsD t)
theorem lparts_body {t : Tm} (h : WF t) : m__law_parts ⟨o, L⟩ [some (enc t), none] m = .ok (.ret (partsD t), m) := by
  cases h with
  | var x => kernel_rfl
  | un hw => rcases hw with rfl | rfl | rfl <;> kernel_rfl
  | fn => kernel_rfl
  | lt => kernel_rfl
  | app => kernel_rfl
  | fold => kernel_rfl
  | loop => kernel_rfl
theorem lparts_ok {t : Tm} (h : WF t) (hm : Cl m) : callN T.tab L (n + 1) "_law_parts" [enc t] m = .ok (partsD t, m) := by
  rw [callN_at tab__law_parts rfl]
  exact fin_same (lparts_body h) hm (refs_partsD t)
theorem enc_shapes :
    (∀ a b c bs, enc (.nd "app" a b bs c) = .tup [.str "app", enc a, enc c]) ∧
    (∀ a b c bs, enc (.nd "quote" a b bs c) = .tup [.str "quote", enc c]) ∧
    (∀ a b c bs, enc (.nd "splice" a b bs c) = .tup [.str "splice", enc c]) ∧
    (∀ a b c bs, enc (.nd "lift" a b bs c) = .tup [.str "lift", enc c]) ∧
    (∀ a b c x, enc (.nd "fun" a b [x] c) = .tup [.str "fun", .str x, enc c]) ∧
    (∀ a b c x, enc (.nd "let" a b [x] c) = .tup [.str "let", .str x, enc a, enc c]) ∧
    (∀ a b c x y, enc (.nd "fold" a b [x, y] c) = .tup [.str "fold", enc a, enc b, .str x, .str y, enc c]) ∧
    (∀ a b c x, enc (.nd "loop" a b [x] c) = .tup [.str "loop", enc a, enc b, .str x, enc c]) ∧
    (∀ x, enc (.var x) = .tup [.str "var", .str x]) := by
  refine ⟨?_, ?_, ?_, ?_, ?_, ?_, ?_, ?_, ?_⟩ <;> intros <;> kernel_rfl
theorem binds_body {t : Tm} (h : WF t) (ho : o "parts_of" [enc t] m = .ok (partsD t, m)) : m_binds_in ⟨o, L⟩ [some (enc t), none] m = .ok (.ret (bindsD t), m) := by
  cases h with
  | var x =>
    unfold m_binds_in
    rw [enc_shapes.2.2.2.2.2.2.2.2] at ho ⊢
    simp only [ev, evd, R.bind_ok, wds, ho, partsD]
    kernel_rfl
  | un hw =>
    rcases hw with rfl | rfl | rfl <;>
    · simp only [enc_shapes] at ho ⊢
      unfold m_binds_in
      simp only [ev, evd, R.bind_ok, wds, ho, partsD]
      kernel_rfl
  | app ha hc =>
    simp only [enc_shapes] at ho ⊢
    unfold m_binds_in
    simp only [ev, evd, R.bind_ok, wds, ho, partsD]
    kernel_rfl
  | fn => kernel_rfl
  | lt => kernel_rfl
  | fold => kernel_rfl
  | loop => kernel_rfl
theorem binds_ok {t : Tm} (h : WF t) (hm : Cl m) : callN T.tab L (n + 2) "binds_in" [enc t] m = .ok (bindsD t, m) := by
  rw [callN_at tab_binds_in rfl]
  exact fin_same (binds_body h (parts_ok h hm)) hm (refs_bindsD t)
theorem lbinds_body {t : Tm} (h : WF t) (ho : o "_law_parts" [enc t] m = .ok (partsD t, m)) : m__law_binds ⟨o, L⟩ [some (enc t), none, none, none] m = .ok (.ret (bindsD t), m) := by
  cases h with
  | var x =>
    unfold m__law_binds
    rw [enc_shapes.2.2.2.2.2.2.2.2] at ho ⊢
    simp only [ev, evd, R.bind_ok, wds, ho, partsD, List.set]
    kernel_rfl
  | un hw =>
    rcases hw with rfl | rfl | rfl <;>
    · simp only [enc_shapes] at ho ⊢
      unfold m__law_binds
      simp only [ev, evd, R.bind_ok, wds, ho, partsD]
      kernel_rfl
  | _ =>
    simp only [enc_shapes] at ho ⊢
    unfold m__law_binds
    simp only [ev, evd, R.bind_ok, wds, ho, partsD]
    kernel_rfl
theorem lbinds_ok {t : Tm} (h : WF t) (hm : Cl m) : callN T.tab L (n + 2) "_law_binds" [enc t] m = .ok (bindsD t, m) := by
  rw [callN_at tab__law_binds rfl]
  exact fin_same (lbinds_body h (lparts_ok h hm)) hm (refs_bindsD t)
end
end K05

set_option maxHeartbeats 4000000
/-! K05f: with_parts, with_names -/
namespace K05
open PySem Fp L2
section
variable {L n : Nat} {m : Mem} {o : Str → List D → Mem → RD}
theorem tuple_of {p : D} {ds : List D} (h : itemsD p m = some ds) : biTuple p m = .ok (.tup ds, m) := by
  unfold biTuple
  rw [h]
theorem ix0_of {p d : D} {ds : List D} (h : itemsD p m = some (d :: ds)) : opIx p (.int 0) m = .ok (d, m) := by
  have e : ∀ q, itemsD q m = some (d :: ds) → opIx q (.int 0) m = (match atI (d :: ds) 0 with | some v => (R.ok (v, m) : RD) | none => R.bad) := by
    intro q hq
    cases q with
    | str x => cases hq
    | _ => unfold opIx; (simp only [hq]) <;> (try rfl)
  rw [e p h]
  have := atI_nat (ds := d :: ds) (k := 0)
  rw [show ((0 : Nat) : Int) = 0 from rfl] at this
  rw [this]
  rfl
theorem wparts_body {w : Str} {a b c a' b' c' : Tm} {bs : List Str} {p : D} (h : WF (.nd w a b bs c)) (hp : itemsD p m = some ((rows (.nd w a' b' bs c')).map fun r => enc r.1)) :
    m_with_parts ⟨o, L⟩ [some (enc (.nd w a b bs c)), some p, none] m = .ok (.ret (enc (.nd w a' b' bs c')), m) := by
  have hp := tuple_of hp
  cases h with
  | un hw =>
    rcases hw with rfl | rfl | rfl <;>
    · simp only [enc_shapes]
      unfold m_with_parts
      simp only [ev, evd, R.bind_ok, wds, hp]
      kernel_rfl
  | _ =>
    simp only [enc_shapes]
    unfold m_with_parts
    simp only [ev, evd, R.bind_ok, wds, hp]
    kernel_rfl
theorem wparts_ok {w : Str} {a b c a' b' c' : Tm} {bs : List Str} {p : D} (hm : Cl m) (h : WF (.nd w a b bs c)) (hp : itemsD p m = some ((rows (.nd w a' b' bs c')).map fun r => enc r.1)) :
    callN T.tab L (n + 1) "with_parts" [enc (.nd w a b bs c), p] m = .ok (enc (.nd w a' b' bs c'), m) := by
  rw [callN_at tab_with_parts rfl]
  exact fin_same (wparts_body h hp) hm (refs_enc _)
theorem wnames_body {w : Str} {a b c : Tm} {bs bs' : List Str} {p : D} (h : WF (.nd w a b bs c)) (hb : bs ≠ []) (hl : bs'.length = bs.length) (hp : itemsD p m = some (bs'.map D.str)) :
    m_with_names ⟨o, L⟩ [some (enc (.nd w a b bs c)), some p] m = .ok (.ret (enc (.nd w a b bs' c)), m) := by
  have hp2 := tuple_of hp
  cases h with
  | un hw => exact absurd rfl hb
  | app _ _ => exact absurd rfl hb
  | fold _ _ _ =>
    obtain ⟨x, y, rfl⟩ : ∃ x y, bs' = [x, y] := by
      match bs', hl with
      | [x, y], _ => exact ⟨x, y, rfl⟩
    simp only [enc_shapes]
    unfold m_with_names
    simp only [ev, evd, R.bind_ok, wds, hp2]
    rw [show opSl (D.tup [D.str (Str.ofString "fold"), enc a, enc b, D.str _, D.str _, enc c]) none (some 3) m = .ok (.tup [.str "fold", enc a, enc b], m) from by kernel_rfl]
    simp only [ev, evd, R.bind_ok, wds, hp2]
    kernel_rfl
  | loop _ _ _ =>
    obtain ⟨x, rfl⟩ : ∃ x, bs' = [x] := by
      match bs', hl with
      | [x], _ => exact ⟨x, rfl⟩
    simp only [enc_shapes]
    unfold m_with_names
    simp only [ev, evd, R.bind_ok, wds, hp2]
    rw [show opSl (D.tup [D.str (Str.ofString "loop"), enc a, enc b, D.str _, enc c]) none (some 3) m = .ok (.tup [.str "loop", enc a, enc b], m) from by kernel_rfl]
    simp only [ev, evd, R.bind_ok, wds, hp2]
    kernel_rfl
  | fn _ =>
    obtain ⟨x, rfl⟩ : ∃ x, bs' = [x] := by
      match bs', hl with
      | [x], _ => exact ⟨x, rfl⟩
    have hp3 := ix0_of hp
    simp only [enc_shapes]
    unfold m_with_names
    simp only [ev, evd, R.bind_ok, wds]
    rw [show opSl (D.tup [D.str (Str.ofString "fun"), D.str _, enc c]) none (some 1) m = .ok (.tup [.str "fun"], m) from by kernel_rfl]
    simp only [ev, evd, R.bind_ok, wds, hp3]
    kernel_rfl
  | lt _ _ =>
    obtain ⟨x, rfl⟩ : ∃ x, bs' = [x] := by
      match bs', hl with
      | [x], _ => exact ⟨x, rfl⟩
    have hp3 := ix0_of hp
    simp only [enc_shapes]
    unfold m_with_names
    simp only [ev, evd, R.bind_ok, wds]
    rw [show opSl (D.tup [D.str (Str.ofString "let"), D.str _, enc a, enc c]) none (some 1) m = .ok (.tup [.str "let"], m) from by kernel_rfl]
    simp only [ev, evd, R.bind_ok, wds, hp3]
    kernel_rfl
theorem wnames_ok {w : Str} {a b c : Tm} {bs bs' : List Str} {p : D} (hm : Cl m) (h : WF (.nd w a b bs c)) (hb : bs ≠ []) (hl : bs'.length = bs.length) (hp : itemsD p m = some (bs'.map D.str)) :
    callN T.tab L (n + 1) "with_names" [enc (.nd w a b bs c), p] m = .ok (enc (.nd w a b bs' c), m) := by
  rw [callN_at tab_with_names rfl]
  exact fin_same (wnames_body h hb hl hp) hm (refs_enc _)
end
end K05

set_option maxHeartbeats 4000000
/-! K05g: free_in -/
namespace K05
open PySem Fp L2
section
variable {L n : Nat} {m : Mem} {o : Str → List D → Mem → RD}
theorem word_nd {w : Str} {a b c : Tm} {bs : List Str} (h : WF (.nd w a b bs c)) : opIx (enc (.nd w a b bs c)) (.int 0) m = .ok (.str w, m) ∧ (w == ("var" : Str)) = false ∧ PyData.strOk w = true := by
  cases h with
  | un hw =>
    rcases hw with rfl | rfl | rfl <;>
    · simp only [enc_shapes, evd, wds, and_self]
  | _ =>
    simp only [enc_shapes, evd, wds, and_self]
theorem zip_rows (t : Tm) : zipD ((rows t).map fun r => enc r.1) ((rows t).map fun r => encs r.2) = (rows t).map fun r => .tup [enc r.1, encs r.2] := zipD_map _ _ _
theorem flt_nil (xs : List Str) : flt [] xs = xs := by
  unfold flt
  simp
theorem rows_shapes :
    (∀ a b c bs, rows (.nd "app" a b bs c) = [(a, []), (c, bs)]) ∧
    (∀ a b c bs, rows (.nd "quote" a b bs c) = [(c, bs)]) ∧
    (∀ a b c bs, rows (.nd "splice" a b bs c) = [(c, bs)]) ∧
    (∀ a b c bs, rows (.nd "lift" a b bs c) = [(c, bs)]) ∧
    (∀ a b c bs, rows (.nd "fun" a b bs c) = [(c, bs)]) ∧
    (∀ a b c bs, rows (.nd "let" a b bs c) = [(a, []), (c, bs)]) ∧
    (∀ a b c bs, rows (.nd "fold" a b bs c) = [(a, []), (b, []), (c, bs)]) ∧
    (∀ a b c bs, rows (.nd "loop" a b bs c) = [(a, []), (b, []), (c, bs)]) ∧
    (∀ x, rows (.var x) = []) := by
  refine ⟨?_, ?_, ?_, ?_, ?_, ?_, ?_, ?_, ?_⟩ <;> intros <;> kernel_rfl
theorem free_rows {w : Str} {a b c : Tm} {bs : List Str} (h : WF (.nd w a b bs c)) : free (.nd w a b bs c) = ss ((rows (.nd w a b bs c)).map fun r => flt r.2 (free r.1)).flatten := by
  cases h with
  | un hw =>
    rcases hw with rfl | rfl | rfl <;>
    · rw [free]
      simp [rows_shapes, flt_nil, free]
  | _ =>
    rw [free]
    simp [rows_shapes, flt_nil, free]
theorem rows_sz {w : Str} {a b c : Tm} {bs : List Str} (h : WF (.nd w a b bs c)) : ((rows (.nd w a b bs c)).map fun r => sz r.1 + r.2.length).sum + 1 = sz (.nd w a b bs c) := by
  cases h with
  | un hw =>
    rcases hw with rfl | rfl | rfl <;>
    · rw [sz]
      simp [rows_shapes, sz]
      omega
  | _ =>
    rw [sz]
    simp [rows_shapes, sz]
    omega
theorem rows_wf {w : Str} {a b c : Tm} {bs : List Str} (h : WF (.nd w a b bs c)) : ∀ r ∈ rows (.nd w a b bs c), WF r.1 ∧ ht r.1 < ht (.nd w a b bs c) := by
  cases h with
  | un hw hc =>
    rcases hw with rfl | rfl | rfl <;>
    · simp [rows_shapes, ht, hc]
  | fn hc => (simp [rows_shapes, ht, hc]) <;> omega
  | lt ha hc => (simp [rows_shapes, ht, ha, hc]) <;> omega
  | app ha hc => (simp [rows_shapes, ht, ha, hc]) <;> omega
  | fold ha hb hc => (simp [rows_shapes, ht, ha, hb, hc]) <;> omega
  | loop ha hb hc => (simp [rows_shapes, ht, ha, hb, hc]) <;> omega
theorem rows_all {w : Str} {a b c : Tm} {bs : List Str} (h : WF (.nd w a b bs c)) : ∀ r ∈ rows (.nd w a b bs c), ∀ x ∈ allN r.1, x ∈ allN (.nd w a b bs c) := by
  cases h with
  | un hw hc =>
    rcases hw with rfl | rfl | rfl <;>
    · simp only [rows_shapes, List.mem_singleton]
      rintro r rfl x hx
      exact mem_all.mpr (.inr (.inr (.inr hx)))
  | _ =>
    simp only [rows_shapes, List.mem_cons, List.not_mem_nil, or_false]
    intro r hr x hx
    rw [mem_all]
    first
    | (rcases hr with rfl | rfl | rfl <;> simp [hx])
    | (rcases hr with rfl | rfl <;> simp [hx])
    | (cases hr; simp [hx])
/-- [name for name in xs if name not in bs] -/
theorem comp_not {c : Cxt} {ρ : EnvD} {i j : Nat} {all : List D} {bs xs : List Str} (hi : i < ρ.length) (hj : i ≠ j) (hb : ρ[j]? = some (some (encs bs))) :
    compL (Fp.compTurn (.nm i) (stCmp cpNotIn (sVar i) (sVar j)) (sVar i) c (wipeD ρ [i])) none all (xs.map D.str) m = .ok ((flt bs xs).map D.str, m) := by
  refine compL_filter (p := fun x => !bs.contains x) fun x _ => ?_
  have e1 : sVar i c (((ρ.set i none)).set i (some (D.str x))) m = .ok (.str x, m) := by
    unfold sVar
    rw [List.getElem?_set_self (by rw [List.length_set]; exact hi)]
  have e2 : sVar j c (((ρ.set i none)).set i (some (D.str x))) m = .ok (encs bs, m) := by
    unfold sVar
    rw [List.getElem?_set_ne hj, List.getElem?_set_ne hj, hb]
  unfold Fp.compTurn
  simp only [asgD, wipeD, ev, e1, e2, R.bind_ok, encs, cpNotIn_strs]
  by_cases q : x ∈ bs
  · simp [q]
  · simp [q, e1]
theorem mkL_lst {ds : List D} (h : ds.length ≤ LIM) : mkL false ds m = .ok (.lst ds, m) := by
  unfold mkL
  rw [if_pos h]
  rfl
theorem free_turn {d : D} {r : Tm × List Str} {acc : List Str} (ho : o "free_in" [enc r.1] (m ++ [.lst (acc.map D.str)]) = .ok (encs (free r.1), m ++ [.lst (acc.map D.str)])) (hl : acc.length + (free r.1).length ≤ LIM) :
    b_free_in_1 ⟨o, L⟩ [some d, some (.ref m.length), some (enc r.1), some (encs r.2), none] (m ++ [.lst (acc.map D.str)]) =
      .ok (.nx [some d, some (.ref m.length), some (enc r.1), some (encs r.2), none], m ++ [.lst ((acc ++ flt r.2 (free r.1)).map D.str)]) := by
  have hfl := flt_len r.2 (free r.1)
  have hg : (m ++ [Ob.lst (acc.map D.str)])[m.length]? = some (.lst (acc.map D.str)) := own_get0
  have hL := isL_ref hg
  have hC := comp_not (m := m ++ [Ob.lst (acc.map D.str)]) (c := ⟨o, L⟩) (ρ := [some d, some (.ref m.length), some (enc r.1), some (encs r.2), none]) (i := 4) (j := 3) (all := (free r.1).map D.str) (bs := r.2) (xs := free r.1) (by simp) (by decide) rfl
  have hM := mkL_lst (m := m ++ [Ob.lst (acc.map D.str)]) (ds := (flt r.2 (free r.1)).map D.str) (by rw [List.length_map]; omega)
  have hE := ext_ref (e := .lst ((flt r.2 (free r.1)).map D.str)) hg rfl (by rw [List.length_map, List.length_map]; omega)
  rw [own_set0, ← List.map_append] at hE
  rw [show encs (free r.1) = .tup ((free r.1).map D.str) from rfl] at ho
  unfold b_free_in_1
  simp only [ev, evd, R.bind_ok, hL, if_true, ho, hC, hM, hE]
  rfl
theorem free_ok : ∀ (h : Nat) {t : Tm}, WF t → ht t ≤ h → sz t ≤ 4000 → (∀ x ∈ allN t, PyData.strOk x = true) → ∀ {n : Nat} {m : Mem}, h + 3 ≤ n → Cl m → callN T.tab L n "free_in" [enc t] m = .ok (encs (free t), m) := by
  intro h
  induction h with
  | zero =>
    intro t ht0 hh _ _ n m hn hm
    obtain ⟨n, rfl⟩ : ∃ k, n = k + 1 := ⟨n - 1, by omega⟩
    rw [callN_at tab_free_in rfl]
    cases ht0 with
    | var x => exact fin_same (by kernel_rfl) hm rfl
    | _ => simp [ht] at hh
  | succ h ih =>
    intro t hw hh hsz hns n m hn hm
    obtain ⟨n, rfl⟩ : ∃ k, n = k + 1 := ⟨n - 1, by omega⟩
    rw [callN_at tab_free_in rfl]
    cases t with
    | nil => cases hw
    | var x => exact fin_same (by kernel_rfl) hm rfl
    | nd w a b bs c =>
      obtain ⟨hw1, hw2, hw3⟩ := word_nd (m := m) hw
      have hp := fun m (hm : Cl m) => parts_ok (L := L) (n := n - 1) (m := m) hw hm
      have hb := fun m (hm : Cl m) => binds_ok (L := L) (n := n - 2) (m := m) hw hm
      rw [show n - 1 + 1 = n by omega] at hp
      rw [show n - 2 + 2 = n by omega] at hb
      have hm1 : Cl (m ++ [.lst []]) := hm.app rfl
      have hp := hp _ hm1
      have hb := hb _ hm1
      have hf := free_rows hw
      have hrw := rows_wf hw
      have hrs := rows_sz hw
      generalize hrt : rows (.nd w a b bs c) = rs at hf hrw hrs
      have hz : zipD ((rows (.nd w a b bs c)).map fun r => enc r.1) ((rows (.nd w a b bs c)).map fun r => encs r.2) = rs.map fun r => .tup [enc r.1, encs r.2] := by
        rw [zip_rows, hrt]
      generalize htot : (rs.map fun r => flt r.2 (free r.1)).flatten = total at hf
      generalize hte : enc (.nd w a b bs c) = te at hp hb hw1
      have loop := forL_rest (t := .tp [2, 3]) (b := b_free_in_1) (c := ⟨callN T.tab L n, L⟩) (all := rs.map fun r => .tup [enc r.1, encs r.2]) (g := fun r : Tm × List Str => .tup [enc r.1, encs r.2])
        (E := fun rest ρ m' => ∃ o2 o3 acc, ρ = [some te, some (.ref m.length), o2, o3, none] ∧ m' = m ++ [.lst (acc.map D.str)] ∧ acc ++ (rest.map fun r => flt r.2 (free r.1)).flatten = total ∧
          acc.length + (rest.map fun r => sz r.1 + r.2.length).sum ≤ 4000 ∧ ∀ r ∈ rest, r ∈ rs)
        (fun x rest ρ m' hE => by
          obtain ⟨o2, o3, acc, rfl, rfl, e, l, hr⟩ := hE
          have hx := hr x List.mem_cons_self
          have hfl := free_len x.1
          have hfl2 := flt_len x.2 (free x.1)
          rw [List.map_cons, List.sum_cons] at l
          have hxs : sz x.1 ≤ 4000 := by omega
          refine ⟨_, _, _, rfl, .inl (free_turn (r := x) (acc := acc) (ih (hrw x hx).1 (by have := (hrw x hx).2; omega) hxs (fun y hy => hns y ?_) (by omega) (hm.app (refss_strs _))) (by have : LIM = 16777216 := rfl; omega)), some _, some _, _, rfl, rfl, ?_, ?_, fun r hr' => hr r (List.mem_cons_of_mem _ hr')⟩
          · exact rows_all hw x (hrt ▸ hx) y hy
          · rw [List.map_cons, List.flatten_cons] at e
            rw [List.append_assoc]
            exact e
          · rw [List.length_append]
            omega)
        (xs := rs) (ρ := [some te, some (.ref m.length), none, none, none]) (m := m ++ [.lst []])
        ⟨none, none, [], rfl, rfl, htot, by rw [List.length_nil]; omega, fun r h => h⟩
      obtain ⟨ρ', m', h1, o2, o3, acc, rfl, rfl, e, l, _⟩ := loop
      rw [List.map_nil, List.flatten_nil, List.append_nil] at e
      subst e
      rw [List.map_nil, List.sum_nil] at l
      have hS := sortSet_ok (list_ref (own_get0 (m := m) (l := [Ob.lst (acc.map D.str)]))) (xs := acc) (by omega)
      refine fin_data (l := [Ob.lst (acc.map D.str)]) ?_ hm (refs_encs _)
      unfold m_free_in
      simp only [ev, evd, R.bind_ok, List.map_cons, List.map_nil, List.length_cons, List.length_nil, List.replicate, List.cons_append, List.nil_append, hw1, hw2, hw3, wds, hp, hb, partsD, bindsD, hz, h1, hS]
      rw [hf]
      rfl
end
end K05

set_option maxHeartbeats 4000000
/-! K05h: word_of, fresh_name -/
namespace K05
open PySem Fp L2
section
variable {L n : Nat} {m : Mem} {o : Str → List D → Mem → RD}
theorem atI_nat' {α : Type} {ds : List α} {k : Nat} : atI ds (k : Int) = ds[k]? := by
  unfold atI ixN
  rw [if_pos (by omega)]
  split
  · rfl
  · rename_i h
    rw [List.getElem?_eq_none (by omega)]
    rfl
theorem letters : ∀ j, j < 26 → ("abcdefghijklmnopqrstuvwxyz" : Str).cps.toList[j]? = some (97 + j) := by decide +kernel
theorem letter (k : Nat) : opIx (.str ("abcdefghijklmnopqrstuvwxyz" : Str)) (.int ((k : Int) % 26)) m = .ok (.str (chr k), m) := by
  have e : ((k : Int) % 26) = ((k % 26 : Nat) : Int) := by omega
  rw [e]
  unfold opIx
  dsimp only
  rw [if_pos (by decide +kernel), atI_nat', letters _ (Nat.mod_lt _ (by omega))]
  rfl
theorem mod26 (k : Nat) : opMod (.int (k : Int)) (.int 26) m = .ok (.int ((k : Int) % 26), m) := rfl
theorem div26 (k : Nat) : opDiv (.int (k : Int)) (.int 26) m = .ok (.int ((k : Int) / 26), m) := by
  unfold opDiv
  dsimp only
  rw [if_pos ⟨by omega, by decide +kernel⟩]
theorem add_str {x y : Str} (h : x.length + y.length ≤ LIM) : opAdd (.str x) (.str y) m = .ok (.str (x ++ y), m) := by
  unfold opAdd
  dsimp only
  rw [if_pos h]
theorem str_assoc (x y z : Str) : x ++ y ++ z = x ++ (y ++ z) := by
  show (⟨(x.cps ++ y.cps) ++ z.cps⟩ : Str) = ⟨x.cps ++ (y.cps ++ z.cps)⟩
  rw [Array.append_assoc]
theorem str_nil (x : Str) : x ++ (⟨#[]⟩ : Str) = x := by
  show (⟨x.cps ++ #[]⟩ : Str) = x
  rw [Array.append_empty]
theorem len_app (x y : Str) : (x ++ y).length = x.length + y.length := by
  show (x.cps ++ y.cps).size = _
  rw [Array.size_append]
  rfl
theorem word_turn {c : Cxt} {k : Nat} {s : Str} (hk : ¬ k < 26) (hl : s.length + 1 ≤ LIM) : b_word_of_1 c [some (.int (k : Int)), some (.str s)] m = .ok (.nx [some (.int ((k / 26 - 1 : Nat) : Int)), some (.str (chr (k / 26 - 1) ++ s))], m) := by
  have e2 : (k : Int) / 26 - 1 = ((k / 26 - 1 : Nat) : Int) := by omega
  have ha := add_str (m := m) (x := chr (k / 26 - 1)) (y := s) (by rw [show (chr (k / 26 - 1)).length = 1 from rfl]; omega)
  unfold b_word_of_1
  simp only [ev, evd, R.bind_ok, div26, e2, mod26, letter, ha]
theorem word_loop {c : Cxt} : ∀ (k : Nat) (s : Str) (f : Nat), k < f → s.length + k + 2 ≤ LIM → ∃ d, whileL (stCmp cpGe (sVar 0) (sK (.int 26))) b_word_of_1 c f [some (.int (k : Int)), some (.str (chr k ++ s))] m = .ok (.nx [some d, some (.str (wd k ++ s))], m) := by
  intro k
  induction k using Nat.strongRecOn with
  | ind k ih =>
    intro s f hf hl
    obtain ⟨f, rfl⟩ : ∃ g, f = g + 1 := ⟨f - 1, by omega⟩
    unfold whileL
    simp only [ev, evd, R.bind_ok]
    by_cases hk : k < 26
    · have e : decide ((26 : Int) ≤ (k : Int)) = false := decide_eq_false (by omega)
      rw [wd, if_pos hk]
      simp only [e, ev, evd, R.bind_ok]
      exact ⟨_, rfl⟩
    · have e : decide ((26 : Int) ≤ (k : Int)) = true := decide_eq_true (by omega)
      have hc2 : (chr k).length = 1 := rfl
      have ht := word_turn (m := m) (c := c) (s := chr k ++ s) hk (by rw [len_app]; omega)
      obtain ⟨d, hd⟩ := ih (k / 26 - 1) (by omega) (chr k ++ s) f (by omega) (by rw [len_app]; omega)
      refine ⟨d, ?_⟩
      simp only [e, ev, evd, R.bind_ok, if_true, ht]
      have ew : wd k = wd (k / 26 - 1) ++ chr k := by
        rw [wd, if_neg hk]
      rw [hd, ew, str_assoc]
theorem word_ok {k : Nat} (hk : k < L) (hl : k + 3 ≤ LIM) (hm : Cl m) : callN T.tab L (n + 1) "word_of" [.int (k : Int)] m = .ok (.str (wd k), m) := by
  rw [callN_at tab_word_of rfl]
  refine fin_same ?_ hm rfl
  obtain ⟨d, hd⟩ := word_loop (m := m) (c := ⟨callN T.tab L n, L⟩) k ⟨#[]⟩ L hk (by show 0 + k + 2 ≤ _; omega)
  rw [str_nil, str_nil] at hd
  unfold m_word_of
  simp only [ev, evd, R.bind_ok, List.map_cons, List.map_nil, List.length_cons, List.length_nil, List.replicate, List.cons_append, List.nil_append, mod26, letter, ssWhile, hd]
theorem wd_len : ∀ k : Nat, (wd k).length ≤ k + 1 := by
  intro k
  induction k using Nat.strongRecOn with
  | ind k ih =>
    rw [wd]
    split
    · show 1 ≤ _
      omega
    · have := ih (k / 26 - 1) (by omega)
      rw [len_app, show (chr k).length = 1 from rfl]
      omega
theorem zS_eq : ("z" : Str) = zS := by decide +kernel
theorem wS_eq : ("w" : Str) = wS := by decide +kernel
theorem nm_ok {p : Str} {k : Nat} (hp : p.length ≤ 100) (hk : k + 200 ≤ LIM) : opAdd (.str p) (.str (wd k)) m = .ok (.str (nmP p k), m) := by
  have := wd_len k
  exact add_str (by omega)
theorem fresh_loop {tk : List Str} (hm : Cl m) (ho : ∀ k : Nat, k < 20000 → o "word_of" [.int (k : Int)] m = .ok (.str (wd k), m)) : ∀ (N k f : Nat), N < f → k + N < 20000 → nmP zS (fst zS tk N k) ∉ tk →
    whileL (stCmp cpIn (sOp opAdd (sK (.str ("z" : Str))) (sCall ("word_of" : Str) (sCons (sVar 1) sNil))) (sVar 0)) b_fresh_name_1 ⟨o, L⟩ f [some (encs tk), some (.int (k : Int))] m = .ok (.nx [some (encs tk), some (.int ((fst zS tk N k : Nat) : Int))], m) := by
  intro N
  induction N with
  | zero =>
    intro k f hf hk hn
    obtain ⟨f, rfl⟩ : ∃ g, f = g + 1 := ⟨f - 1, by omega⟩
    have h1 := ho k (by omega)
    have h2 := nm_ok (m := m) (p := zS) (k := k) (by decide) (by have : LIM = 16777216 := rfl; omega)
    have h3 : decide (nmP zS k ∈ tk) = false := decide_eq_false hn
    unfold whileL
    simp only [ev, evd, R.bind_ok, h1, zS_eq, h2, encs, cpIn_strs, h3]
    rfl
  | succ N ih =>
    intro k f hf hk hn
    obtain ⟨f, rfl⟩ : ∃ g, f = g + 1 := ⟨f - 1, by omega⟩
    have h1 := ho k (by omega)
    have h2 := nm_ok (m := m) (p := zS) (k := k) (by decide) (by have : LIM = 16777216 := rfl; omega)
    unfold fst at hn ⊢
    by_cases q : nmP zS k ∈ tk
    · rw [if_pos q] at hn ⊢
      have h3 : decide (nmP zS k ∈ tk) = true := decide_eq_true q
      have h4 := ih (k + 1) f (by omega) (by omega) hn
      have e : ((k + 1 : Nat) : Int) = (k : Int) + 1 := by omega
      rw [e] at h4
      have hb : b_fresh_name_1 ⟨o, L⟩ [some (encs tk), some (.int (k : Int))] m = .ok (.nx [some (encs tk), some (.int ((k : Int) + 1))], m) := by
        unfold b_fresh_name_1
        simp only [ev, evd, R.bind_ok]
      unfold encs at h4 hb ⊢
      unfold whileL
      simp only [zS_eq] at h4
      simp only [ev, evd, R.bind_ok, h1, zS_eq, h2, cpIn_strs, h3, if_true, hb, h4]
    · rw [if_neg q] at hn ⊢
      have h3 : decide (nmP zS k ∈ tk) = false := decide_eq_false q
      unfold whileL
      simp only [ev, evd, R.bind_ok, h1, zS_eq, h2, encs, cpIn_strs, h3]
      rfl
theorem fresh_ok {tk : List Str} (hL : 20000 ≤ L) (hl : tk.length < 10000) (hm : Cl m) : callN T.tab L (n + 2) "fresh_name" [encs tk] m = .ok (.str (fresh tk), m) := by
  rw [callN_at tab_fresh_name rfl]
  have ho : ∀ k : Nat, k < 20000 → callN T.tab L (n + 1) "word_of" [.int (k : Int)] m = .ok (.str (wd k), m) := fun k hk => word_ok (by omega) (by have : LIM = 16777216 := rfl; omega) hm
  have h := fresh_loop (L := L) (o := callN T.tab L (n + 1)) hm ho tk.length 0 L (by omega) (by omega) (fst_out zS tk 0)
  have hb := (fst_le (p := zS) (tk := tk) (n := tk.length) (k := 0)).2
  have h1 := ho (fst zS tk tk.length 0) (by omega)
  have h2 := nm_ok (m := m) (p := zS) (k := fst zS tk tk.length 0) (by decide) (by have : LIM = 16777216 := rfl; omega)
  refine fin_same ?_ hm rfl
  rw [zS_eq] at h
  rw [show ((0 : Nat) : Int) = 0 from rfl] at h
  unfold m_fresh_name
  simp only [ev, evd, R.bind_ok, List.map_cons, List.map_nil, List.length_cons, List.length_nil, List.replicate, List.cons_append, List.nil_append, zS_eq, ssWhile, h, h1, h2]
  rfl
end
end K05

set_option maxHeartbeats 4000000
/-! K05i: bound_in -/
namespace K05
open PySem Fp L2
section
variable {L n : Nat} {m : Mem} {o : Str → List D → Mem → RD}
def lstS (xs : List Str) : D := .lst (xs.map D.str)
theorem refs_lstS {k : Nat} (xs : List Str) : refsB k (lstS xs) = true := refss_strs xs
theorem bnd_rows {t : Tm} (h : WF t) : bnd t = ((rows t).map fun r => r.2 ++ bnd r.1).flatten := by
  cases h with
  | var x => rfl
  | un hw =>
    rcases hw with rfl | rfl | rfl <;>
    · rw [bnd]
      simp [rows_shapes, bnd]
  | _ =>
    rw [bnd]
    simp [rows_shapes, bnd]
theorem bnd_len : ∀ t : Tm, (bnd t).length ≤ sz t
  | .nil => Nat.le_refl _
  | .var _ => Nat.zero_le _
  | .nd w a b bs c => by
    have h1 := bnd_len a
    have h2 := bnd_len b
    have h3 := bnd_len c
    unfold bnd sz
    simp only [List.length_append]
    omega
theorem add_lst {xs ys : List D} (h : xs.length + ys.length ≤ LIM) : opAdd (.lst xs) (.lst ys) m = .ok (.lst (xs ++ ys), m) := by
  unfold opAdd
  simp only [listD]
  rw [if_pos h]
theorem list_tup {ds : List D} (h : ds.length ≤ LIM) : biList false (.tup ds) m = .ok (.lst ds, m) := mkL_lst h
theorem bound_turn {d : D} {r : Tm × List Str} {acc : List Str} (ho : o "bound_in" [enc r.1] (m ++ [.lst (acc.map D.str)]) = .ok (lstS (bnd r.1), m ++ [.lst (acc.map D.str)])) (hl : acc.length + (r.2.length + (bnd r.1).length) ≤ LIM) :
    b_bound_in_1 ⟨o, L⟩ [some d, some (.ref m.length), some (enc r.1), some (encs r.2)] (m ++ [.lst (acc.map D.str)]) =
      .ok (.nx [some d, some (.ref m.length), some (enc r.1), some (encs r.2)], m ++ [.lst ((acc ++ (r.2 ++ bnd r.1)).map D.str)]) := by
  have hg : (m ++ [Ob.lst (acc.map D.str)])[m.length]? = some (.lst (acc.map D.str)) := own_get0
  have hL := isL_ref hg
  have hM := list_tup (m := m ++ [Ob.lst (acc.map D.str)]) (ds := r.2.map D.str) (by rw [List.length_map]; omega)
  have hA := add_lst (m := m ++ [Ob.lst (acc.map D.str)]) (xs := r.2.map D.str) (ys := (bnd r.1).map D.str) (by rw [List.length_map, List.length_map]; omega)
  rw [← List.map_append] at hA
  have hE := ext_ref (e := .lst ((r.2 ++ bnd r.1).map D.str)) hg rfl (by rw [List.length_map, List.length_map, List.length_append]; omega)
  rw [own_set0, ← List.map_append] at hE
  rw [show lstS (bnd r.1) = .lst ((bnd r.1).map D.str) from rfl] at ho
  unfold b_bound_in_1 encs
  simp only [ev, evd, R.bind_ok, hL, if_true, ho, hM, hA, hE]
  rfl
theorem bound_ok : ∀ (h : Nat) {t : Tm}, WF t → ht t ≤ h → sz t ≤ 4000 → ∀ {n : Nat} {m : Mem}, h + 3 ≤ n → Cl m → callN T.tab L n "bound_in" [enc t] m = .ok (lstS (bnd t), m) := by
  intro h
  induction h using Nat.strongRecOn with
  | ind h ih =>
    intro t hw hh hsz n m hn hm
    obtain ⟨n, rfl⟩ : ∃ k, n = k + 1 := ⟨n - 1, by omega⟩
    rw [callN_at tab_bound_in rfl]
    have hp := fun m (hm : Cl m) => parts_ok (L := L) (n := n - 1) (m := m) hw hm
    have hb := fun m (hm : Cl m) => binds_ok (L := L) (n := n - 2) (m := m) hw hm
    rw [show n - 1 + 1 = n by omega] at hp
    rw [show n - 2 + 2 = n by omega] at hb
    have hm1 : Cl (m ++ [.lst []]) := hm.app rfl
    have hp := hp _ hm1
    have hb := hb _ hm1
    have hf := bnd_rows hw
    have hrw : ∀ r ∈ rows t, WF r.1 ∧ ht r.1 < ht t := by
      cases t with
      | nil => cases hw
      | var x => intro r hr; cases hr
      | nd w a b bs c => exact rows_wf hw
    have hrs : ((rows t).map fun r => sz r.1 + r.2.length).sum ≤ sz t := by
      cases t with
      | nil => cases hw
      | var x => exact Nat.zero_le _
      | nd w a b bs c => have := rows_sz hw; omega
    generalize hrt : rows t = rs at hf hrw hrs
    have hz : zipD ((rows t).map fun r => enc r.1) ((rows t).map fun r => encs r.2) = rs.map fun r => .tup [enc r.1, encs r.2] := by
      rw [zip_rows, hrt]
    generalize htot : (rs.map fun r => r.2 ++ bnd r.1).flatten = total at hf
    generalize hte : enc t = te at hp hb
    have loop := forL_rest (t := .tp [2, 3]) (b := b_bound_in_1) (c := ⟨callN T.tab L n, L⟩) (all := rs.map fun r => .tup [enc r.1, encs r.2]) (g := fun r : Tm × List Str => .tup [enc r.1, encs r.2])
      (E := fun rest ρ m' => ∃ o2 o3 acc, ρ = [some te, some (.ref m.length), o2, o3] ∧ m' = m ++ [.lst (acc.map D.str)] ∧ acc ++ (rest.map fun r => r.2 ++ bnd r.1).flatten = total ∧
        acc.length + (rest.map fun r => sz r.1 + r.2.length).sum ≤ 4000 ∧ ∀ r ∈ rest, r ∈ rs)
      (fun x rest ρ m' hE => by
        obtain ⟨o2, o3, acc, rfl, rfl, e, l, hr⟩ := hE
        have hx := hr x List.mem_cons_self
        have hfl := bnd_len x.1
        rw [List.map_cons, List.sum_cons] at l
        have hxs : sz x.1 ≤ 4000 := by omega
        refine ⟨_, _, _, rfl, .inl (bound_turn (r := x) (acc := acc) (ih (ht x.1) (by have := (hrw x hx).2; omega) (hrw x hx).1 (Nat.le_refl _) hxs (by have := (hrw x hx).2; omega) (hm.app (refss_strs _))) (by have : LIM = 16777216 := rfl; omega)), some _, some _, _, rfl, rfl, ?_, ?_, fun r hr' => hr r (List.mem_cons_of_mem _ hr')⟩
        · rw [List.map_cons, List.flatten_cons] at e
          rw [List.append_assoc]
          exact e
        · rw [List.length_append, List.length_append]
          omega)
      (xs := rs) (ρ := [some te, some (.ref m.length), none, none]) (m := m ++ [.lst []])
      ⟨none, none, [], rfl, rfl, htot, by rw [List.length_nil]; omega, fun r h => h⟩
    obtain ⟨ρ', m', h1, o2, o3, acc, rfl, rfl, e, l, _⟩ := loop
    rw [List.map_nil, List.flatten_nil, List.append_nil] at e
    subst e
    refine fin_ret (m1 := m) (d := .ref m.length) (l := [Ob.lst (acc.map D.str)]) ?_ rfl hm ?_
    · unfold m_bound_in
      simp only [ev, evd, R.bind_ok, List.map_cons, List.map_nil, List.length_cons, List.length_nil, List.replicate, List.cons_append, List.nil_append, wds, hp, hb, partsD, bindsD, hz, h1]
    · rw [hf]
      rw [frzD, if_neg (Nat.lt_irrefl _), own_get0]
      show (if refsBs m.length (acc.map D.str) then _ else _) = _
      rw [if_pos (refss_strs acc)]
      rfl
end
end K05

set_option maxHeartbeats 4000000
/-! K05k: all_within, names_in -/
namespace K05
open PySem Fp L2
section
variable {L n : Nat} {m : Mem} {o : Str → List D → Mem → RD}
def Sok (t : Tm) : Prop := ∀ x ∈ allN t, PyData.strOk x = true
theorem rows_wf2 {t : Tm} (hw : WF t) : ∀ r ∈ rows t, WF r.1 ∧ ht r.1 < ht t := by
  cases t with
  | nil => cases hw
  | var x => intro r hr; cases hr
  | nd w a b bs c => exact rows_wf hw
theorem rows_sok {t : Tm} (hw : WF t) (hs : Sok t) : ∀ r ∈ rows t, Sok r.1 := by
  cases t with
  | nil => cases hw
  | var x => intro r hr; cases hr
  | nd w a b bs c => exact fun r hr x hx => hs x (rows_all hw r hr x hx)
theorem sok_nd {w : Str} {a b c : Tm} {bs : List Str} : Sok (.nd w a b bs c) ↔ (∀ x ∈ bs, PyData.strOk x = true) ∧ Sok a ∧ Sok b ∧ Sok c := by
  unfold Sok
  simp only [mem_all]
  exact ⟨fun h => ⟨fun x hx => h x (.inl hx), fun x hx => h x (.inr (.inl hx)), fun x hx => h x (.inr (.inr (.inl hx))), fun x hx => h x (.inr (.inr (.inr hx)))⟩,
    fun h x hx => by
      rcases hx with q | q | q | q
      · exact h.1 x q
      · exact h.2.1 x q
      · exact h.2.2.1 x q
      · exact h.2.2.2 x q⟩
theorem enc_pl : ∀ {t : Tm}, WF t → Sok t → plD (ht t + 1) (enc t) = true := by
  intro t hw
  induction hw with
  | var x =>
    intro hs
    have := hs x (by simp [allN])
    simp only [enc_shapes, ht, plD, plDs, wds, this, Bool.and_true]
  | un hw hc ih =>
    intro hs
    have h1 := ih (sok_nd.mp hs).2.2.2
    rcases hw with rfl | rfl | rfl <;>
    · simp only [enc_shapes, plD, plDs, wds, Bool.and_true, Bool.true_and]
      exact pl_mono (by rw [ht]; omega) h1
  | fn hc ih =>
    intro hs
    have h1 := ih (sok_nd.mp hs).2.2.2
    have h2 := (sok_nd.mp hs).1 _ (List.mem_singleton.mpr rfl)
    simp only [enc_shapes, plD, plDs, wds, h2, Bool.and_true, Bool.true_and]
    exact pl_mono (by rw [ht]; omega) h1
  | lt ha hc iha ihc =>
    intro hs
    have h0 := iha (sok_nd.mp hs).2.1
    have h1 := ihc (sok_nd.mp hs).2.2.2
    have h2 := (sok_nd.mp hs).1 _ (List.mem_singleton.mpr rfl)
    simp only [enc_shapes, plD, plDs, wds, h2, Bool.and_true, Bool.true_and]
    rw [Bool.and_eq_true]
    exact ⟨pl_mono (by rw [ht]; omega) h0, pl_mono (by rw [ht]; omega) h1⟩
  | app ha hc iha ihc =>
    intro hs
    have h0 := iha (sok_nd.mp hs).2.1
    have h1 := ihc (sok_nd.mp hs).2.2.2
    simp only [enc_shapes, plD, plDs, wds, Bool.and_true, Bool.true_and]
    rw [Bool.and_eq_true]
    exact ⟨pl_mono (by rw [ht]; omega) h0, pl_mono (by rw [ht]; omega) h1⟩
  | fold ha hb hc iha ihb ihc =>
    intro hs
    have h0 := iha (sok_nd.mp hs).2.1
    have h3 := ihb (sok_nd.mp hs).2.2.1
    have h1 := ihc (sok_nd.mp hs).2.2.2
    have h2 := (sok_nd.mp hs).1 _ List.mem_cons_self
    have h4 := (sok_nd.mp hs).1 _ (List.mem_cons_of_mem _ List.mem_cons_self)
    simp only [enc_shapes, plD, plDs, wds, h2, h4, Bool.and_true, Bool.true_and]
    rw [Bool.and_eq_true, Bool.and_eq_true]
    exact ⟨pl_mono (by rw [ht]; omega) h0, pl_mono (by rw [ht]; omega) h3, pl_mono (by rw [ht]; omega) h1⟩
  | loop ha hb hc iha ihb ihc =>
    intro hs
    have h0 := iha (sok_nd.mp hs).2.1
    have h3 := ihb (sok_nd.mp hs).2.2.1
    have h1 := ihc (sok_nd.mp hs).2.2.2
    have h2 := (sok_nd.mp hs).1 _ List.mem_cons_self
    simp only [enc_shapes, plD, plDs, wds, h2, Bool.and_true, Bool.true_and]
    rw [Bool.and_eq_true, Bool.and_eq_true]
    exact ⟨pl_mono (by rw [ht]; omega) h0, pl_mono (by rw [ht]; omega) h3, pl_mono (by rw [ht]; omega) h1⟩
/-- all terms within, itself first -/
def wth : Tm → List Tm
  | .nil => []
  | .var x => [.var x]
  | .nd w a b bs c => .nd w a b bs c :: (wth a ++ (wth b ++ wth c))
theorem wth_rows {t : Tm} (h : WF t) : wth t = t :: ((rows t).map fun r => wth r.1).flatten := by
  cases h with
  | var x => rfl
  | un hw =>
    rcases hw with rfl | rfl | rfl <;>
    · rw [wth]
      simp [rows_shapes, wth]
  | _ =>
    rw [wth]
    simp [rows_shapes, wth]
theorem wth_len : ∀ t : Tm, (wth t).length ≤ sz t
  | .nil => Nat.le_refl _
  | .var _ => Nat.le_refl _
  | .nd w a b bs c => by
    have h1 := wth_len a
    have h2 := wth_len b
    have h3 := wth_len c
    unfold wth sz
    rw [List.length_cons, List.length_append, List.length_append]
    omega
theorem wth_wf {t : Tm} (h : WF t) : ∀ u ∈ wth t, WF u := by
  induction h with
  | var x => intro u hu; rw [wth, List.mem_singleton] at hu; subst hu; exact .var x
  | un hw hc ih =>
    intro u hu
    rw [wth, List.mem_cons, List.mem_append, List.mem_append] at hu
    rcases hu with rfl | hu | hu | hu
    · exact .un hw hc
    · cases hu
    · cases hu
    · exact ih u hu
  | fn hc ih =>
    intro u hu
    rw [wth, List.mem_cons, List.mem_append, List.mem_append] at hu
    rcases hu with rfl | hu | hu | hu
    · exact .fn hc
    · cases hu
    · cases hu
    · exact ih u hu
  | lt ha hc iha ihc =>
    intro u hu
    rw [wth, List.mem_cons, List.mem_append, List.mem_append] at hu
    rcases hu with rfl | hu | hu | hu
    · exact .lt ha hc
    · exact iha u hu
    · cases hu
    · exact ihc u hu
  | app ha hc iha ihc =>
    intro u hu
    rw [wth, List.mem_cons, List.mem_append, List.mem_append] at hu
    rcases hu with rfl | hu | hu | hu
    · exact .app ha hc
    · exact iha u hu
    · cases hu
    · exact ihc u hu
  | fold ha hb hc iha ihb ihc =>
    intro u hu
    rw [wth, List.mem_cons, List.mem_append, List.mem_append] at hu
    rcases hu with rfl | hu | hu | hu
    · exact .fold ha hb hc
    · exact iha u hu
    · exact ihb u hu
    · exact ihc u hu
  | loop ha hb hc iha ihb ihc =>
    intro u hu
    rw [wth, List.mem_cons, List.mem_append, List.mem_append] at hu
    rcases hu with rfl | hu | hu | hu
    · exact .loop ha hb hc
    · exact iha u hu
    · exact ihb u hu
    · exact ihc u hu
/-- a term's own names -/
def ownV : Tm → List Str
  | .var x => [x]
  | _ => []
def ownB (t : Tm) : List Str := ((rows t).map fun r => r.2).flatten
def ownN (t : Tm) : List Str := ownV t ++ ownB t
theorem own_nd {w : Str} {a b c : Tm} {bs : List Str} (h : WF (.nd w a b bs c)) : ownN (.nd w a b bs c) = bs := by
  unfold ownN ownB
  cases h with
  | un hw => rcases hw with rfl | rfl | rfl <;> simp [rows_shapes, ownV]
  | _ => simp [rows_shapes, ownV]
theorem own_all {t : Tm} (h : WF t) : ((wth t).map ownN).flatten = allN t := by
  have go : ∀ {t : Tm}, (∀ u ∈ wth t, WF u) → ((wth t).map ownN).flatten = allN t := by
    intro t
    induction t with
    | nil => intro _; rfl
    | var x => intro _; rfl
    | nd w a b bs c iha ihb ihc =>
      intro hu
      rw [wth] at hu ⊢
      rw [List.map_cons, List.flatten_cons, own_nd (hu _ List.mem_cons_self), List.map_append, List.map_append, List.flatten_append, List.flatten_append]
      rw [iha fun u q => hu u (List.mem_cons_of_mem _ (List.mem_append_left _ q)), ihb fun u q => hu u (List.mem_cons_of_mem _ (List.mem_append_right _ (List.mem_append_left _ q))),
        ihc fun u q => hu u (List.mem_cons_of_mem _ (List.mem_append_right _ (List.mem_append_right _ q)))]
      rfl
  exact go (wth_wf h)
theorem rows_sum {t : Tm} (h : WF t) : ((rows t).map fun r => sz r.1).sum + 1 ≤ sz t := by
  cases h with
  | var x => simp [rows_shapes, sz]
  | un hw => rcases hw with rfl | rfl | rfl <;> (simp [rows_shapes, sz]; try omega)
  | _ => simp [rows_shapes, sz] <;> omega
theorem pop_ref {k : Nat} {m : Mem} {ds : List D} {e : D} (h : m[k]? = some (.lst (ds ++ [e]))) : mPop (.ref k) [] m = .ok (e, m.set k (.lst ds)) := by
  unfold mPop
  dsimp only
  rw [h]
  dsimp only
  rw [List.length_append, List.length_singleton, Nat.add_sub_cancel, List.getElem?_append_right (Nat.le_refl _), Nat.sub_self]
  dsimp only [List.getElem?_cons_zero]
  rw [List.dropLast_concat]
theorem all_turn {d1 : D} {d2 : Option D} {u : Tm} {acc st : List Tm} (hu : WF u) (ho : ∀ m, Cl m → o "parts_of" [enc u] m = .ok (partsD u, m)) (hm : Cl m) (hl : acc.length + (st.length + (rows u).length) ≤ 10000) :
    b_all_within_1 ⟨o, L⟩ [some d1, some (.ref m.length), some (.ref (m.length + 1)), d2] (m ++ [.lst (acc.map enc), .lst ((st ++ [u]).map enc)]) =
      .ok (.nx [some d1, some (.ref m.length), some (.ref (m.length + 1)), some (enc u)], m ++ [.lst ((acc ++ [u]).map enc), .lst ((st ++ ((rows u).map fun r => r.1).reverse).map enc)]) := by
  have hLIM : LIM = 16777216 := rfl
  have g1 : (m ++ [Ob.lst (acc.map enc), .lst ((st ++ [u]).map enc)])[m.length + 1]? = some (.lst (st.map enc ++ [enc u])) := by
    rw [own_get, List.map_append]
    rfl
  have l1 := isL_ref g1
  have p1 := pop_ref g1
  rw [own_set, show ([Ob.lst (acc.map enc), .lst ((st ++ [u]).map enc)]).set 1 (Ob.lst (st.map enc)) = [.lst (acc.map enc), .lst (st.map enc)] from rfl] at p1
  have g2 : (m ++ [Ob.lst (acc.map enc), .lst (st.map enc)])[m.length]? = some (.lst (acc.map enc)) := own_get0
  have l2 := isL_ref g2
  have p2 := app_ref (e := enc u) g2 (by rw [List.length_map]; omega)
  rw [own_set0, show ([Ob.lst (acc.map enc), .lst (st.map enc)]).set 0 (Ob.lst (acc.map enc ++ [enc u])) = [.lst (acc.map enc ++ [enc u]), .lst (st.map enc)] from rfl] at p2
  have g3 : (m ++ [Ob.lst (acc.map enc ++ [enc u]), .lst (st.map enc)])[m.length + 1]? = some (.lst (st.map enc)) := own_get
  have l3 := isL_ref g3
  have hc : Cl (m ++ [Ob.lst (acc.map enc ++ [enc u]), .lst (st.map enc)]) := by
    have refs : ∀ {k : Nat} (xs : List Tm), refsBs k (xs.map enc) = true := fun xs => refss_all fun x hx => by
      obtain ⟨r, _, rfl⟩ := List.mem_map.mp hx
      exact refs_enc _
    have h1 : Cl (m ++ [Ob.lst (acc.map enc ++ [enc u])]) := hm.app (by
      show refsBs _ _ = true
      rw [refss_append, refs acc, refsBs, refs_enc]
      rfl)
    have h2 := h1.app (o := .lst (st.map enc)) (refs st)
    rwa [List.append_assoc] at h2
  have ho := ho _ hc
  have hM := mkL_lst (m := m ++ [Ob.lst (acc.map enc ++ [enc u]), .lst (st.map enc)]) (ds := (rows u).map fun r => enc r.1) (by rw [List.length_map]; omega)
  have p3 := ext_ref (e := .lst ((rows u).map fun r => enc r.1).reverse) g3 rfl (by rw [List.length_map, List.length_reverse, List.length_map]; omega)
  rw [own_set, show ([Ob.lst (acc.map enc ++ [enc u]), .lst (st.map enc)]).set 1 (Ob.lst (st.map enc ++ ((rows u).map fun r => enc r.1).reverse)) = [.lst (acc.map enc ++ [enc u]), .lst (st.map enc ++ ((rows u).map fun r => enc r.1).reverse)] from rfl] at p3
  have e1 : (acc ++ [u]).map enc = acc.map enc ++ [enc u] := by rw [List.map_append]; rfl
  have e2 : (st ++ ((rows u).map fun r => r.1).reverse).map enc = st.map enc ++ ((rows u).map fun r => enc r.1).reverse := by
    rw [List.map_append, List.map_reverse, List.map_map]
    rfl
  rw [e1, e2]
  unfold partsD at ho
  unfold b_all_within_1
  simp only [ev, evd, ev2, R.bind_ok, l1, if_true, p1, l2, p2, l3, ho, hM, p3]
theorem all_loop (hm : Cl m) (ho : ∀ u m, WF u → Cl m → o "parts_of" [enc u] m = .ok (partsD u, m)) {d1 : D} : ∀ (f : Nat) (st acc : List Tm) (d2 : Option D), (∀ u ∈ st, WF u ∧ Sok u ∧ ht u ≤ 40) → (st.map sz).sum + acc.length ≤ 4000 → (st.map sz).sum < f →
    ∃ d, whileL (stCmp cpNe (sVar 2) (sApp (mkL false) sNil)) b_all_within_1 ⟨o, L⟩ f [some d1, some (.ref m.length), some (.ref (m.length + 1)), d2] (m ++ [.lst (acc.map enc), .lst (st.map enc)]) =
      .ok (.nx [some d1, some (.ref m.length), some (.ref (m.length + 1)), d], m ++ [.lst ((acc ++ (st.reverse.map wth).flatten).map enc), .lst []]) := by
  intro f
  induction f with
  | zero => intro st acc d2 _ _ h; omega
  | succ f ih =>
    intro st acc d2 hst hl hf
    have hpl : plD 64 (.lst (st.map enc)) = true := by
      rw [plD]
      refine pls_all fun d hd => ?_
      obtain ⟨u, hu, rfl⟩ := List.mem_map.mp hd
      exact pl_mono (by have := (hst u hu).2.2; omega) (enc_pl (hst u hu).1 (hst u hu).2.1)
    have g1 : (m ++ [Ob.lst (acc.map enc), .lst (st.map enc)])[m.length + 1]? = some (.lst (st.map enc)) := own_get
    have hne := cpNe_ref (es := []) g1 hpl rfl
    rw [eqDs_nil] at hne
    rcases List.eq_nil_or_concat st with rfl | ⟨st', u, rfl⟩
    · refine ⟨d2, ?_⟩
      unfold whileL
      rw [show ([] : List Tm).map enc = [] from rfl] at hne
      simp only [ev, evd, R.bind_ok, List.map_nil, hne, List.isEmpty_nil]
      simp
    · rw [List.concat_eq_append] at hst hl hf hne ⊢
      have hu := hst u (by simp)
      have hrs := rows_sum hu.1
      rw [List.map_append, List.sum_append, List.map_singleton, List.sum_singleton] at hl hf
      have hst' : ∀ v ∈ st' ++ ((rows u).map fun r => r.1).reverse, WF v ∧ Sok v ∧ ht v ≤ 40 := by
        intro v hv
        rcases List.mem_append.mp hv with q | q
        · exact hst v (by simp [q])
        · rw [List.mem_reverse] at q
          obtain ⟨r, hr, rfl⟩ := List.mem_map.mp q
          have h1 := rows_wf2 hu.1 r hr
          exact ⟨h1.1, rows_sok hu.1 hu.2.1 r hr, by have := hu.2.2; omega⟩
      have hsum : ((st' ++ ((rows u).map fun r => r.1).reverse).map sz).sum = (st'.map sz).sum + ((rows u).map fun r => sz r.1).sum := by
        rw [List.map_append, List.sum_append, List.map_reverse, List.sum_reverse, List.map_map]
        rfl
      have hstl : st'.length ≤ (st'.map sz).sum := by
        have : ∀ xs : List Tm, (∀ v ∈ xs, WF v) → xs.length ≤ (xs.map sz).sum := by
          intro xs
          induction xs with
          | nil => intro _; exact Nat.le_refl _
          | cons x xs ih =>
            intro hx
            have h1 := ih fun v hv => hx v (List.mem_cons_of_mem _ hv)
            have h2 := rows_sum (hx x List.mem_cons_self)
            rw [List.length_cons, List.map_cons, List.sum_cons]
            omega
        exact this st' fun v hv => (hst v (by simp [hv])).1
      have hrl : (rows u).length ≤ 3 := by
        have := hu.1
        cases this with
        | var x => exact Nat.zero_le _
        | un hw => rcases hw with rfl | rfl | rfl <;> simp [rows_shapes]
        | _ => simp [rows_shapes]
      have turn := all_turn (L := L) (m := m) (d1 := d1) (d2 := d2) (acc := acc) (st := st') hu.1 (fun m hm => ho u m hu.1 hm) hm (by omega)
      obtain ⟨d, hd⟩ := ih (st' ++ ((rows u).map fun r => r.1).reverse) (acc ++ [u]) (some (enc u)) hst' (by rw [hsum, List.length_append, List.length_singleton]; omega) (by rw [hsum]; omega)
      refine ⟨d, ?_⟩
      unfold whileL
      have ef : (!((st' ++ [u]).map enc).isEmpty) = true := by
        cases st' <;> rfl
      rw [ef] at hne
      have ek : acc ++ [u] ++ ((st' ++ ((rows u).map fun r => r.1).reverse).reverse.map wth).flatten = acc ++ ((st' ++ [u]).reverse.map wth).flatten := by
        rw [List.reverse_append, List.reverse_reverse, List.map_append, List.flatten_append, List.reverse_append, List.map_append, List.flatten_append]
        rw [show (([u] : List Tm).reverse.map wth).flatten = wth u by simp, wth_rows hu.1, List.map_map]
        simp only [List.append_assoc, List.singleton_append, List.cons_append, List.nil_append]
        rfl
      rw [ek] at hd
      simp only [ev, evd, R.bind_ok, hne, if_true, turn, hd]
theorem all_ok {t : Tm} (hw : WF t) (hs : Sok t) (hh : ht t ≤ 40) (hsz : sz t ≤ 4000) (hL : 20000 ≤ L) (hm : Cl m) : callN T.tab L (n + 2) "all_within" [enc t] m = .ok (.tup ((wth t).map enc), m) := by
  rw [callN_at tab_all_within rfl]
  obtain ⟨d, hd⟩ := all_loop (L := L) (m := m) (o := callN T.tab L (n + 1)) hm (fun u m hu hm => parts_ok hu hm) (d1 := enc t) L [t] [] none
    (fun u hu => by rw [List.mem_singleton.mp hu]; exact ⟨hw, hs, hh⟩) (by simpa using hsz) (by simp; omega)
  have e : ([] ++ (([t] : List Tm).reverse.map wth).flatten).map enc = (wth t).map enc := by simp
  rw [e] at hd
  refine fin_data (l := [Ob.lst ((wth t).map enc), .lst []]) ?_ hm (refss_all fun x hx => by
    obtain ⟨u, _, rfl⟩ := List.mem_map.mp hx
    exact refs_enc _)
  have hi := tuple_of (items_ref (own_get0 (m := m) (l := [Ob.lst ((wth t).map enc), .lst []])))
  have ha : m ++ [Ob.lst []] ++ [Ob.lst [enc t]] = m ++ [Ob.lst [], .lst [enc t]] := by simp
  have hlen : (m ++ [Ob.lst []]).length = m.length + 1 := by simp
  simp only [List.map_cons, List.map_nil] at hd
  unfold m_all_within
  simp only [ev, evd, ev2, R.bind_ok, List.map_cons, List.map_nil, List.length_cons, List.length_nil, List.replicate, ha, hlen, hd, hi, List.cons_append, List.nil_append]
theorem comp_binds {c : Cxt} {ρ : EnvD} {i j : Nat} {all : List D} {t : Tm} (hi : i < ρ.length) (hj : j < ρ.length) (hij : i ≠ j) :
    compL (Fp.compTurn2 (.nm i) (siSeq (sVar i)) [j] (.nm j) stYes (sVar j) c (wipeD ρ [i, j])) none all ((rows t).map fun r => encs r.2) m = .ok ((ownB t).map D.str, m) := by
  have h := comp2_flat (c := c) (ρ := ρ) (i := i) (j := j) (all := all) (m := m) (yss := (rows t).map fun r => r.2.map D.str) hi hj hij
  have e1 : ((rows t).map fun r => r.2.map D.str).map D.tup = (rows t).map fun r => encs r.2 := by
    rw [List.map_map]
    rfl
  have e2 : ((rows t).map fun r => r.2.map D.str).flatten = (ownB t).map D.str := by
    unfold ownB
    rw [List.map_flatten, List.map_map]
    rfl
  rw [e1, e2] at h
  exact h
theorem names_turn {d : D} {d3 d4 : Option D} {u : Tm} {acc : List Str} (hu : WF u) (ho : ∀ m, Cl m → o "binds_in" [enc u] m = .ok (bindsD u, m)) (hm : Cl m) (hl : acc.length + (ownN u).length ≤ 10000) :
    b_names_in_1 ⟨o, L⟩ [some d, some (.ref m.length), some (enc u), d3, d4] (m ++ [.lst (acc.map D.str)]) =
      .ok (.nx [some d, some (.ref m.length), some (enc u), d3, d4], m ++ [.lst ((acc ++ ownN u).map D.str)]) := by
  have hLIM : LIM = 16777216 := rfl
  have hC : ∀ m', compL (Fp.compTurn2 (.nm 3) (siSeq (sVar 3)) [4] (.nm 4) stYes (sVar 4) ⟨o, L⟩ (wipeD [some d, some (.ref m.length), some (enc u), d3, d4] [3, 4])) none ((rows u).map fun r => encs r.2) ((rows u).map fun r => encs r.2) m' = .ok ((ownB u).map D.str, m') := fun m' => comp_binds (by simp) (by simp) (by decide)
  have hl1 : (ownN u).length = (ownV u).length + (ownB u).length := by unfold ownN; rw [List.length_append]
  have hV : (sIfE (stCmp cpEq (sOp opIx (sVar 2) (sK (.int 0))) (sK (.str ("var" : Str)))) (sApp (mkL false) (sCons (sOp opIx (sVar 2) (sK (.int 1))) sNil)) (sApp (mkL false) sNil)) ⟨o, L⟩ [some d, some (.ref m.length), some (enc u), d3, d4] (m ++ [.lst (acc.map D.str)]) = .ok (.lst ((ownV u).map D.str), m ++ [.lst (acc.map D.str)]) := by
    cases u with
    | nil => cases hu
    | var x =>
      simp only [ev, evd, R.bind_ok, enc_shapes, wds]
      rfl
    | nd w a b bs c =>
      obtain ⟨hw1, hw2, hw3⟩ := word_nd (m := m ++ [.lst (acc.map D.str)]) hu
      simp only [ev, evd, R.bind_ok, hw1, hw2, hw3, wds]
      rfl
  have hg : (m ++ [Ob.lst (acc.map D.str)])[m.length]? = some (.lst (acc.map D.str)) := own_get0
  have hL1 := isL_ref hg
  have hE := ext_ref (e := .lst ((ownV u).map D.str)) hg rfl (by rw [List.length_map, List.length_map]; omega)
  rw [own_set0, ← List.map_append, show ([Ob.lst (acc.map D.str)]).set 0 (Ob.lst ((acc ++ ownV u).map D.str)) = [Ob.lst ((acc ++ ownV u).map D.str)] from rfl] at hE
  have hg2 : (m ++ [Ob.lst ((acc ++ ownV u).map D.str)])[m.length]? = some (.lst ((acc ++ ownV u).map D.str)) := own_get0
  have hL2 := isL_ref hg2
  have hE2 := ext_ref (e := .lst ((ownB u).map D.str)) hg2 rfl (by rw [List.length_map, List.length_map, List.length_append]; omega)
  rw [own_set0, ← List.map_append, List.append_assoc, show ([Ob.lst ((acc ++ ownV u).map D.str)]).set 0 (Ob.lst ((acc ++ (ownV u ++ ownB u)).map D.str)) = [Ob.lst ((acc ++ ownN u).map D.str)] from rfl] at hE2
  have ho := ho (m ++ [Ob.lst ((acc ++ ownV u).map D.str)]) (hm.app (refss_strs _))
  have hC := hC (m ++ [Ob.lst ((acc ++ ownV u).map D.str)])
  have hM := mkL_lst (m := m ++ [Ob.lst ((acc ++ ownV u).map D.str)]) (ds := (ownB u).map D.str) (by rw [List.length_map]; omega)
  unfold bindsD at ho
  unfold b_names_in_1
  generalize (sIfE (stCmp cpEq (sOp opIx (sVar 2) (sK (.int 0))) (sK (.str ("var" : Str)))) (sApp (mkL false) (sCons (sOp opIx (sVar 2) (sK (.int 1))) sNil)) (sApp (mkL false) sNil)) = eV at hV ⊢
  simp only [ev, evd, ev2, R.bind_ok, hL1, if_true, hV, hE, hL2, ho, hC, hM, hE2]
theorem names_ok {t : Tm} (hw : WF t) (hs : Sok t) (hh : ht t ≤ 40) (hsz : sz t ≤ 4000) (hL : 20000 ≤ L) (hm : Cl m) : callN T.tab L (n + 3) "names_in" [enc t] m = .ok (encs (ss (allN t)), m) := by
  rw [callN_at tab_names_in rfl]
  have hlen := all_len t
  have loop := forL_rest (t := .nm 2) (b := b_names_in_1) (c := ⟨callN T.tab L (n + 2), L⟩) (all := (wth t).map enc) (g := enc)
    (E := fun rest ρ m' => ∃ o2 acc, ρ = [some (enc t), some (.ref m.length), o2, none, none] ∧ m' = m ++ [.lst (acc.map D.str)] ∧ acc ++ (rest.map ownN).flatten = allN t ∧ ∀ u ∈ rest, WF u)
    (fun x rest ρ m' hE => by
      obtain ⟨o2, acc, rfl, rfl, e, hr⟩ := hE
      rw [List.map_cons, List.flatten_cons] at e
      have hle : acc.length + (ownN x).length ≤ 4000 := by
        have := congrArg List.length e
        rw [List.length_append, List.length_append] at this
        omega
      refine ⟨_, _, _, rfl, .inl (names_turn (hr x List.mem_cons_self) (fun m hm => binds_ok (hr x List.mem_cons_self) hm) hm (by omega)), some (enc x), _, rfl, rfl, ?_, fun u hu => hr u (List.mem_cons_of_mem _ hu)⟩
      rw [List.append_assoc]
      exact e)
    (xs := wth t) (ρ := [some (enc t), some (.ref m.length), none, none, none]) (m := m ++ [.lst []])
    ⟨none, [], rfl, rfl, own_all hw, wth_wf hw⟩
  obtain ⟨ρ', m', h1, o2, acc, rfl, rfl, e, _⟩ := loop
  rw [List.map_nil, List.flatten_nil, List.append_nil] at e
  subst e
  have hA := all_ok (n := n) (L := L) hw hs hh hsz hL (hm.app (o := .lst []) rfl)
  have hS := sortSet_ok (list_ref (own_get0 (m := m) (l := [Ob.lst ((allN t).map D.str)]))) (xs := allN t) (by omega)
  refine fin_data (l := [Ob.lst ((allN t).map D.str)]) ?_ hm (refs_encs _)
  unfold m_names_in
  simp only [ev, evd, R.bind_ok, List.map_cons, List.map_nil, List.length_cons, List.length_nil, List.replicate, List.cons_append, List.nil_append, hA, h1, hS]
  rfl
end
end K05

set_option maxHeartbeats 4000000
/-! K05l: what putting in keeps: plain -/
namespace K05
open PySem Fp L2
theorem rpl_nil {n : Nat} {x : Str} {o : Tm} : rpl fresh n .nil x o = .nil := by cases n <;> rfl
theorem rpl_var {n : Nat} {x y : Str} {o : Tm} : rpl fresh n (.var y) x o = if y = x then o else .var y := by cases n <;> rfl
theorem wf_same {w : Str} {a b c a' b' c' : Tm} {bs bs' : List Str} (h : WF (.nd w a b bs c)) (hl : bs'.length = bs.length) (ha : WF a → WF a') (hb : WF b → WF b') (hc : WF c → WF c') (na : a = .nil → a' = .nil) (nb : b = .nil → b' = .nil) : WF (.nd w a' b' bs' c') := by
  cases h with
  | un hw h1 =>
    obtain rfl : bs' = [] := List.length_eq_zero_iff.mp hl
    rw [na rfl, nb rfl]
    exact .un hw (hc h1)
  | fn h1 =>
    obtain ⟨x, rfl⟩ : ∃ x, bs' = [x] := List.length_eq_one_iff.mp hl
    rw [na rfl, nb rfl]
    exact .fn (hc h1)
  | lt h0 h1 =>
    obtain ⟨x, rfl⟩ : ∃ x, bs' = [x] := List.length_eq_one_iff.mp hl
    rw [nb rfl]
    exact .lt (ha h0) (hc h1)
  | app h0 h1 =>
    obtain rfl : bs' = [] := List.length_eq_zero_iff.mp hl
    rw [nb rfl]
    exact .app (ha h0) (hc h1)
  | fold h0 h2 h1 =>
    obtain ⟨x, y, rfl⟩ : ∃ x y, bs' = [x, y] := by
      match bs', hl with
      | [x, y], _ => exact ⟨x, y, rfl⟩
    exact .fold (ha h0) (hb h2) (hc h1)
  | loop h0 h2 h1 =>
    obtain ⟨x, rfl⟩ : ∃ x, bs' = [x] := List.length_eq_one_iff.mp hl
    exact .loop (ha h0) (hb h2) (hc h1)
theorem wf_rpl : ∀ {n : Nat} {t o : Tm} {x : Str}, WF t → WF o → WF (rpl fresh n t x o)
  | n, .nil, o, x, h, _ => by cases h
  | n, .var y, o, x, h, ho => by
    rw [rpl_var]
    split
    · exact ho
    · exact .var y
  | 0, .nd w a b bs c, o, x, h, ho => h
  | n + 1, .nd w a b bs c, o, x, h, ho => by
    unfold rpl
    split
    · have q := apt_keeps (fr := fresh) (rp := rpl fresh n) (P := fun t => WF c → WF t) (fun t x y h hc => wf_rpl (h hc) (.var y)) (w := w) (a := a) (b := b) (tk := free o) (k := bs.length) (bs := bs) (c := c) id
      refine wf_same h q.2 (fun ha => wf_rpl ha ho) (fun hb => wf_rpl hb ho) (fun hc => ?_) (fun e => by rw [e, rpl_nil]) (fun e => by rw [e, rpl_nil])
      split
      · exact q.1 hc
      · exact wf_rpl (q.1 hc) ho
    · exact h
theorem wf_apt {n k : Nat} {w : Str} {a b c : Tm} {bs tk : List Str} (h : WF (.nd w a b bs c)) : WF (.nd w a b (apt fresh (rpl fresh n) w a b tk k bs c).1 (apt fresh (rpl fresh n) w a b tk k bs c).2) := by
  have q := apt_keeps (fr := fresh) (rp := rpl fresh n) (P := fun t => WF c → WF t) (fun t x y h hc => wf_rpl (h hc) (.var y)) (w := w) (a := a) (b := b) (tk := tk) (k := k) (bs := bs) (c := c) id
  exact wf_same h q.2 id id q.1 id id
theorem ok_chr (k : Nat) : PyData.strOk (chr k) = true := by
  show (#[97 + k % 26] : Array Nat).all (· < 0x110000) = true
  have : 97 + k % 26 < 0x110000 := by omega
  simp [this]
theorem ok_app {x y : Str} (hx : PyData.strOk x = true) (hy : PyData.strOk y = true) : PyData.strOk (x ++ y) = true := by
  show (x.cps ++ y.cps).all (· < 0x110000) = true
  unfold PyData.strOk at hx hy
  rw [Array.all_append, hx, hy]
  rfl
theorem ok_wd : ∀ k : Nat, PyData.strOk (wd k) = true := by
  intro k
  induction k using Nat.strongRecOn with
  | ind k ih =>
    rw [wd]
    split
    · exact ok_chr k
    · exact ok_app (ih _ (by omega)) (ok_chr k)
theorem ok_fresh (tk : List Str) : PyData.strOk (fresh tk) = true := ok_app (by decide +kernel) (ok_wd _)
theorem ok_nmW (k : Nat) : PyData.strOk (nmP wS k) = true := ok_app (by decide +kernel) (ok_wd _)
theorem sok_var {x : Str} : Sok (.var x) ↔ PyData.strOk x = true := by
  unfold Sok
  simp [allN]
theorem apt_sok {rp : Tm → Str → Tm → Tm} (hrp : ∀ t x y, Sok t → PyData.strOk y = true → Sok (rp t x (.var y))) {w : Str} {a b : Tm} {tk : List Str} : ∀ {k : Nat} {bs : List Str} {c : Tm}, Sok c → (∀ x ∈ bs, PyData.strOk x = true) → Sok (apt fresh rp w a b tk k bs c).2 ∧ ∀ x ∈ (apt fresh rp w a b tk k bs c).1, PyData.strOk x = true
  | 0, _, _, h, h' => ⟨h, h'⟩
  | k + 1, bs, c, h, h' => by
    unfold apt
    split
    · exact ⟨h, h'⟩
    · refine apt_sok hrp (hrp c _ _ h (ok_fresh _)) fun x hx => ?_
      obtain ⟨y, hy, rfl⟩ := List.mem_map.mp hx
      unfold rb
      split
      · exact ok_fresh _
      · exact h' y hy
theorem sok_rpl : ∀ {n : Nat} {t o : Tm} {x : Str}, Sok t → Sok o → Sok (rpl fresh n t x o)
  | n, .nil, o, x, h, _ => by rw [rpl_nil]; exact h
  | n, .var y, o, x, h, ho => by
    rw [rpl_var]
    split
    · exact ho
    · exact h
  | 0, .nd w a b bs c, o, x, h, ho => h
  | n + 1, .nd w a b bs c, o, x, h, ho => by
    unfold rpl
    split
    · rw [sok_nd] at h
      have q := apt_sok (rp := rpl fresh n) (fun t x y h hy => sok_rpl h (sok_var.mpr hy)) (w := w) (a := a) (b := b) (tk := free o) (k := bs.length) (bs := bs) (c := c) h.2.2.2 h.1
      rw [sok_nd]
      refine ⟨q.2, sok_rpl h.2.1 ho, sok_rpl h.2.2.1 ho, ?_⟩
      split
      · exact q.1
      · exact sok_rpl q.1 ho
    · exact h
theorem ht_rpl2 {o : Tm} : ∀ {n : Nat} {t : Tm} {x : Str}, ht (rpl fresh n t x o) ≤ ht t + ht o
  | n, .nil, x => by rw [rpl_nil]; exact Nat.zero_le _
  | n, .var y, x => by
    rw [rpl_var]
    split
    · exact Nat.le_add_left _ _
    · exact Nat.zero_le _
  | 0, .nd w a b bs c, x => Nat.le_add_right _ _
  | n + 1, .nd w a b bs c, x => by
    unfold rpl
    split
    · have q := (apt_keeps (fr := fresh) (rp := rpl fresh n) (P := fun t => ht t = ht c) (fun t x y h => (ht_rpl n t x y).trans h) (w := w) (a := a) (b := b) (tk := free o) (k := bs.length) (bs := bs) (c := c) rfl).1
      have h1 := ht_rpl2 (o := o) (n := n) (t := a) (x := x)
      have h2 := ht_rpl2 (o := o) (n := n) (t := b) (x := x)
      simp only [ht]
      have h3 : ht (if x ∈ (apt fresh (rpl fresh n) w a b (free o) bs.length bs c).1 then (apt fresh (rpl fresh n) w a b (free o) bs.length bs c).2 else rpl fresh n (apt fresh (rpl fresh n) w a b (free o) bs.length bs c).2 x o) ≤ ht c + ht o := by
        split
        · rw [q]
          exact Nat.le_add_right _ _
        · have := ht_rpl2 (o := o) (n := n) (t := (apt fresh (rpl fresh n) w a b (free o) bs.length bs c).2) (x := x)
          rw [q] at this
          exact this
      omega
    · exact Nat.le_add_right _ _
theorem apt_ht {n k : Nat} {w : Str} {a b c : Tm} {bs tk : List Str} : ht (apt fresh (rpl fresh n) w a b tk k bs c).2 = ht c :=
  (apt_keeps (fr := fresh) (rp := rpl fresh n) (P := fun t => ht t = ht c) (fun t x y h => (ht_rpl n t x y).trans h) (w := w) (a := a) (b := b) (tk := tk) (k := k) (bs := bs) (c := c) rfl).1
theorem apt_sz {n k : Nat} {w : Str} {a b c : Tm} {bs tk : List Str} : sz (apt fresh (rpl fresh n) w a b tk k bs c).2 = sz c ∧ (apt fresh (rpl fresh n) w a b tk k bs c).1.length = bs.length :=
  apt_keeps (fr := fresh) (rp := rpl fresh n) (P := fun t => sz t = sz c) (fun t x y h => (sz_rpl_var n t x y).trans h) (w := w) (a := a) (b := b) (tk := tk) (k := k) (bs := bs) (c := c) rfl
theorem sz_pos {t : Tm} (h : WF t) : 1 ≤ sz t := by
  cases h <;> simp [sz] <;> omega
/-- the parts changed by f -/
theorem rows_map {w : Str} {a b c a' b' c' : Tm} {bs bs' : List Str} (h : WF (.nd w a b bs c)) (hl : bs'.length = bs.length) {f : Tm × List Str → Tm} (ha : f (a, []) = a') (hb : f (b, []) = b') (hc : f (c, bs) = c') : (rows (.nd w a b bs c)).map f = (rows (.nd w a' b' bs' c')).map fun r => r.1 := by
  cases h with
  | un hw => rcases hw with rfl | rfl | rfl <;> simp [rows_shapes, hc]
  | app _ _ => simp [rows_shapes, hc, ha]
  | fn _ => simp [rows_shapes, hc]
  | lt _ _ => simp [rows_shapes, hc, ha]
  | fold _ _ _ => simp [rows_shapes, hc, ha, hb]
  | loop _ _ _ => simp [rows_shapes, hc, ha, hb]
theorem rows_bs {w : Str} {a b c : Tm} {bs : List Str} (h : WF (.nd w a b bs c)) : ((rows (.nd w a b bs c)).map fun r => r.2).flatten = bs := own_nd h
end K05

set_option maxHeartbeats 4000000
/-! K05p: replaced, apart_from, with_bound -/
namespace K05
open PySem Fp L2
section
variable {L n : Nat} {m : Mem} {o : Str → List D → Mem → RD}
theorem add_tup {xs ys : List D} (h : xs.length + ys.length ≤ LIM) : opAdd (.tup xs) (.tup ys) m = .ok (.tup (xs ++ ys), m) := by
  unfold opAdd
  dsimp only
  rw [if_pos h]
theorem add_encs {xs ys : List Str} (h : xs.length + ys.length ≤ 100000) : opAdd (encs xs) (encs ys) m = .ok (encs (xs ++ ys), m) := by
  unfold encs
  rw [add_tup (by rw [List.length_map, List.length_map]; have : LIM = 16777216 := rfl; omega), List.map_append]
theorem refs_map {α : Type} {k : Nat} {f : α → Tm} (xs : List α) : refsBs k (xs.map fun r => enc (f r)) = true := refss_all fun x hx => by
  obtain ⟨r, _, rfl⟩ := List.mem_map.mp hx
  exact refs_enc _
theorem wf_bs {w : Str} {a b c : Tm} {bs : List Str} (h : WF (.nd w a b bs c)) : bs.length ≤ 2 := by
  cases h <;> simp
theorem le_sum : ∀ {xs : List Nat} {x : Nat}, x ∈ xs → x ≤ xs.sum
  | y :: ys, x, h => by
    rw [List.sum_cons]
    rcases List.mem_cons.mp h with q | q
    · omega
    · have := le_sum q
      omega
def wbF (h : Nat) (y z : Str) (r : Tm × List Str) : Tm := if y ∈ r.2 then rpl fresh h r.1 y (.var z) else r.1
theorem wb_turn {d : D} {y z : Str} {d7 : Option D} {h : Nat} {r : Tm × List Str} {ps : List D} {bs0 : List Str}
    (ho : y ∈ r.2 → o "replaced" [enc r.1, .str y, enc (.var z)] (m ++ [.lst ps, .lst (bs0.map D.str)]) = .ok (enc (rpl fresh h r.1 y (.var z)), m ++ [.lst ps, .lst (bs0.map D.str)])) (hl : ps.length + (bs0.length + r.2.length) ≤ 10000) :
    b_with_bound_1 ⟨o, L⟩ [some d, some (.str y), some (.str z), some (.ref m.length), some (.ref (m.length + 1)), some (enc r.1), some (encs r.2), d7] (m ++ [.lst ps, .lst (bs0.map D.str)]) =
      .ok (.nx [some d, some (.str y), some (.str z), some (.ref m.length), some (.ref (m.length + 1)), some (enc r.1), some (encs r.2), d7], m ++ [.lst (ps ++ [enc (wbF h y z r)]), .lst ((bs0 ++ r.2).map D.str)]) := by
  have hLIM : LIM = 16777216 := rfl
  have g1 : (m ++ [Ob.lst ps, .lst (bs0.map D.str)])[m.length]? = some (.lst ps) := own_get0
  have l1 := isL_ref g1
  have p1 := app_ref (e := enc (wbF h y z r)) g1 (by omega)
  rw [own_set0, show ([Ob.lst ps, .lst (bs0.map D.str)]).set 0 (Ob.lst (ps ++ [enc (wbF h y z r)])) = [Ob.lst (ps ++ [enc (wbF h y z r)]), .lst (bs0.map D.str)] from rfl] at p1
  have g2 : (m ++ [Ob.lst (ps ++ [enc (wbF h y z r)]), .lst (bs0.map D.str)])[m.length + 1]? = some (.lst (bs0.map D.str)) := own_get
  have l2 := isL_ref g2
  have hM := mkL_lst (m := m ++ [Ob.lst (ps ++ [enc (wbF h y z r)]), .lst (bs0.map D.str)]) (ds := r.2.map D.str) (by rw [List.length_map]; omega)
  have p2 := ext_ref (e := .lst (r.2.map D.str)) g2 rfl (by rw [List.length_map, List.length_map]; omega)
  rw [own_set, ← List.map_append, show ([Ob.lst (ps ++ [enc (wbF h y z r)]), .lst (bs0.map D.str)]).set 1 (Ob.lst ((bs0 ++ r.2).map D.str)) = [Ob.lst (ps ++ [enc (wbF h y z r)]), .lst ((bs0 ++ r.2).map D.str)] from rfl] at p2
  unfold b_with_bound_1
  unfold wbF at p1 p2 g2 l2 hM ⊢
  by_cases hy : y ∈ r.2
  · have ho := ho hy
    have hi : ∀ m, cpIn (.str y) (.tup (r.2.map D.str)) m = some true := fun m => by rw [cpIn_strs, decide_eq_true hy]
    rw [if_pos hy] at p1 p2 g2 l2 hM ⊢
    simp only [enc_shapes] at ho
    unfold encs
    simp only [ev, evd, ev2, R.bind_ok, l1, if_true, hi, ho, p1, l2, hM, p2]
  · have hi : ∀ m, cpIn (.str y) (.tup (r.2.map D.str)) m = some false := fun m => by rw [cpIn_strs, decide_eq_false hy]
    rw [if_neg hy] at p1 p2 g2 l2 hM ⊢
    unfold encs
    simp only [ev, evd, ev2, R.bind_ok, l1, if_true, hi, p1, l2, hM, p2]
/-- what replaced is to answer, up to a height -/
def RepOk (L h N H : Nat) : Prop := ∀ (n : Nat), N ≤ n → ∀ {t o' : Tm} {x : Str}, WF t → Sok t → ht t ≤ h → sz t ≤ 4000 → WF o' → Sok o' → ht o' ≤ H → sz o' ≤ 4000 → PyData.strOk x = true →
  ∀ {m : Mem}, Cl m → callN T.tab L n "replaced" [enc t, .str x, enc o'] m = .ok (enc (rpl fresh h t x o'), m)
theorem wb_ok {h N H : Nat} (hR : RepOk L h N H) {w : Str} {a b c : Tm} {bs : List Str} {y z : Str} (hw : WF (.nd w a b bs c)) (hs : Sok (.nd w a b bs c)) (hh : ht (.nd w a b bs c) ≤ h + 1) (hsz : sz (.nd w a b bs c) ≤ 4000)
    (hy : y ∈ bs) (hz : PyData.strOk z = true) {n : Nat} (hn : N + 1 ≤ n) (hn2 : 4 ≤ n) (hm : Cl m) :
    callN T.tab L n "with_bound" [enc (.nd w a b bs c), .str y, .str z] m = .ok (enc (.nd w a b (bs.map (rb y z)) (rpl fresh h c y (.var z))), m) := by
  obtain ⟨n, rfl⟩ : ∃ k, n = k + 1 := ⟨n - 1, by omega⟩
  rw [callN_at tab_with_bound rfl]
  have hyo := (sok_nd.mp hs).1 y hy
  have hlb : bs.length ≤ 4000 := by
    rw [sz] at hsz
    omega
  have hp := fun m (hm : Cl m) => parts_ok (L := L) (n := n - 1) (m := m) hw hm
  have hb := fun m (hm : Cl m) => binds_ok (L := L) (n := n - 2) (m := m) hw hm
  rw [show n - 1 + 1 = n by omega] at hp
  rw [show n - 2 + 2 = n by omega] at hb
  have hm1 : Cl (m ++ [.lst []]) := hm.app rfl
  have hm2 : Cl (m ++ [.lst [], .lst []]) := by
    have := hm1.app (o := .lst []) rfl
    rwa [List.append_assoc] at this
  have hp := hp _ hm2
  have hb := hb _ hm2
  have hrw := rows_wf2 hw
  have hrk := rows_sok hw hs
  have hrs := rows_sz hw
  have hrb := rows_bs hw
  have hr3 : (rows (.nd w a b bs c)).length ≤ 4000 := by
    have : ∀ xs : List (Tm × List Str), (∀ r ∈ xs, WF r.1) → xs.length ≤ (xs.map fun r => sz r.1 + r.2.length).sum := by
      intro xs
      induction xs with
      | nil => intro _; exact Nat.le_refl _
      | cons r xs ih =>
        intro hx
        have h1 := ih fun r hr => hx r (List.mem_cons_of_mem _ hr)
        have h2 := sz_pos (hx r List.mem_cons_self)
        rw [List.length_cons, List.map_cons, List.sum_cons]
        omega
    have := this _ fun r hr => (hrw r hr).1
    omega
  have hmap := rows_map (bs' := bs) hw rfl (f := wbF h y z) (a' := a) (b' := b) (c' := rpl fresh h c y (.var z)) (by unfold wbF; rw [if_neg (by simp)]) (by unfold wbF; rw [if_neg (by simp)]) (by unfold wbF; rw [if_pos hy])
  have hw' : WF (.nd w a b bs (rpl fresh h c y (.var z))) := wf_same hw rfl id id (fun hc => wf_rpl hc (.var z)) id id
  generalize hrt : rows (.nd w a b bs c) = rs at hrw hrs hrb hr3 hmap hrk
  have hzp : zipD ((rows (.nd w a b bs c)).map fun r => enc r.1) ((rows (.nd w a b bs c)).map fun r => encs r.2) = rs.map fun r => .tup [enc r.1, encs r.2] := by
    rw [zip_rows, hrt]
  have hwp := fun {p : D} {m : Mem} (hm : Cl m) => wparts_ok (L := L) (n := n - 1) (m := m) (a' := a) (b' := b) (c' := rpl fresh h c y (.var z)) (p := p) hm hw
  rw [show n - 1 + 1 = n by omega] at hwp
  have hwn := fun {p : D} {m : Mem} (hm : Cl m) => wnames_ok (L := L) (n := n - 1) (m := m) (bs' := bs.map (rb y z)) (p := p) hm hw' (fun e => by rw [e] at hy; cases hy) (by rw [List.length_map])
  rw [show n - 1 + 1 = n by omega] at hwn
  generalize enc (.nd w a b bs c) = te at hp hb hwp
  generalize hps : (rs.map (wbF h y z)).map enc = PS
  have loop := forL_rest (t := .tp [5, 6]) (b := b_with_bound_1) (c := ⟨callN T.tab L n, L⟩) (all := rs.map fun r => .tup [enc r.1, encs r.2]) (g := fun r : Tm × List Str => .tup [enc r.1, encs r.2])
    (E := fun rest ρ m' => ∃ o5 o6 ps bs0, ρ = [some te, some (.str y), some (.str z), some (.ref m.length), some (.ref (m.length + 1)), o5, o6, none] ∧ m' = m ++ [.lst ps, .lst (bs0.map D.str)] ∧
      ps ++ (rest.map (wbF h y z)).map enc = PS ∧ bs0 ++ (rest.map fun r => r.2).flatten = bs ∧ (∀ r ∈ rest, r ∈ rs) ∧ ∀ k, refsBs k ps = true)
    (fun x rest ρ m' hE => by
      obtain ⟨o5, o6, ps, bs0, rfl, rfl, e1, e2, hr, hk⟩ := hE
      have hx := hr x List.mem_cons_self
      rw [List.map_cons, List.map_cons] at e1
      rw [List.map_cons, List.flatten_cons] at e2
      have hL1 : ps.length ≤ 4000 := by
        have := congrArg List.length e1
        rw [← hps, List.length_append, List.length_map, List.length_map] at this
        omega
      have hL2 : bs0.length + x.2.length ≤ 4000 := by
        have := congrArg List.length e2
        rw [List.length_append, List.length_append] at this
        omega
      have hmc : Cl (m ++ [.lst ps, .lst (bs0.map D.str)]) := by
        have := (hm.app (o := .lst ps) (hk _)).app (o := .lst (bs0.map D.str)) (refss_strs _)
        rwa [List.append_assoc] at this
      have hxs : sz x.1 ≤ 4000 := by
        have : sz x.1 + x.2.length ≤ (rs.map fun r => sz r.1 + r.2.length).sum := le_sum (List.mem_map.mpr ⟨x, hx, rfl⟩)
        omega
      refine ⟨_, _, _, rfl, .inl (wb_turn (h := h) (fun hyx => hR _ (by omega) (hrw x hx).1 (hrk x hx) (by have := (hrw x hx).2; omega) hxs (.var z) (sok_var.mpr hz) (Nat.zero_le _) (by simp [sz]) hyo hmc) (by omega)), some _, some _, _, _, rfl, rfl, ?_, ?_, fun r hr' => hr r (List.mem_cons_of_mem _ hr'), fun k => ?_⟩
      · rw [List.append_assoc]
        exact e1
      · rw [List.append_assoc]
        exact e2
      · rw [refss_append, hk, refsBs, refs_enc]
        rfl)
    (xs := rs) (ρ := [some te, some (.str y), some (.str z), some (.ref m.length), some (.ref (m.length + 1)), none, none, none]) (m := m ++ [.lst [], .lst []])
    ⟨none, none, [], [], rfl, rfl, hps, hrb, fun r h => h, fun _ => rfl⟩
  obtain ⟨ρ', m', h1, o5, o6, ps, bs0, rfl, rfl, e1, e2, _, hk⟩ := loop
  rw [List.map_nil, List.map_nil, List.append_nil] at e1
  rw [List.map_nil, List.flatten_nil, List.append_nil] at e2
  subst e1
  subst e2
  have hmc : Cl (m ++ [.lst ps, .lst (bs0.map D.str)]) := by
    have := (hm.app (o := .lst ps) (hk _)).app (o := .lst (bs0.map D.str)) (refss_strs _)
    rwa [List.append_assoc] at this
  have g1 : (m ++ [Ob.lst ps, .lst (bs0.map D.str)])[m.length]? = some (.lst ps) := own_get0
  have g2 : (m ++ [Ob.lst ps, .lst (bs0.map D.str)])[m.length + 1]? = some (.lst (bs0.map D.str)) := own_get
  have hwp := hwp (p := .ref m.length) hmc (by
    rw [items_ref g1, ← hps, hmap, List.map_map]
    rfl)
  have hwn := hwn (p := .lst ((bs0.map (rb y z)).map D.str)) hmc rfl
  have hsq := kSeq_ref g2
  have hM := mkL_lst (m := m ++ [Ob.lst ps, .lst (bs0.map D.str)]) (ds := (bs0.map (rb y z)).map D.str) (by rw [List.length_map, List.length_map]; have : LIM = 16777216 := rfl; omega)
  have hC := comp_map_src (c := ⟨callN T.tab L n, L⟩) (ρ := [some te, some (.str y), some (.str z), some (.ref m.length), some (.ref (m.length + 1)), o5, o6, none]) (i := 7) (src := some (m.length + 1)) (all := bs0.map D.str)
    (m := m ++ [Ob.lst ps, .lst (bs0.map D.str)]) (e := sIfE (stCmp cpEq (sVar 7) (sVar 1)) (sVar 2) (sVar 7)) (g := D.str) (f := fun x => D.str (rb y z x)) (xs := bs0) (stands_ref g2) (fun x hx => by
      have hxo := (sok_nd.mp hs).1 x hx
      have e0 := cpEq_str (m := m ++ [Ob.lst ps, .lst (bs0.map D.str)]) hxo hyo
      simp only [ev, evd, R.bind_ok, e0]
      unfold rb
      by_cases q : x = y
      · rw [if_pos q, show (x == y) = true by simp [q]]
        simp only [ev, evd]
      · rw [if_neg q, show (x == y) = false by simp [q]]
        simp only [ev, evd])
  rw [show (bs0.map fun x => D.str (rb y z x)) = (bs0.map (rb y z)).map D.str by rw [List.map_map]; rfl] at hC
  refine fin_data (l := [Ob.lst ps, .lst (bs0.map D.str)]) ?_ hm (refs_enc _)
  have ha : m ++ [Ob.lst []] ++ [Ob.lst []] = m ++ [Ob.lst [], .lst []] := by simp
  have hlen : (m ++ [Ob.lst []]).length = m.length + 1 := by simp
  unfold m_with_bound
  simp only [ev, evd, R.bind_ok, List.map_cons, List.map_nil, List.length_cons, List.length_nil, List.replicate, List.cons_append, List.nil_append, ha, hlen, hp, hb, partsD, bindsD, hzp, h1, hwp, hsq, hC, hM, hwn]
theorem apart_turn_no {d e : D} {d4 d5 : Option D} {tk : List Str} {x : Str} (hx : x ∉ tk) :
    b_apart_from_1 ⟨o, L⟩ [some d, some (encs tk), some e, some (.str x), d4, d5] m = .ok (.nx [some d, some (encs tk), some e, some (.str x), d4, d5], m) := by
  have hi : cpIn (.str x) (.tup (tk.map D.str)) m = some false := by rw [cpIn_strs, decide_eq_false hx]
  unfold b_apart_from_1 encs
  simp only [ev, evd, R.bind_ok, hi]
theorem find_taken {tk bs : List Str} : (bs.find? fun y => decide (y ∈ tk)) = none ↔ ∀ y ∈ bs, y ∉ tk := by
  rw [List.find?_eq_none]
  simp
theorem apart_none (hL : 20000 ≤ L) {w : Str} {a b c : Tm} {bs tk : List Str} (hm : Cl m) (hw : WF (.nd w a b bs c)) (hsz : sz (.nd w a b bs c) ≤ 4000) (hno : ∀ y ∈ bs, y ∉ tk) {n : Nat} (hn : 6 ≤ n) :
    callN T.tab L n "apart_from" [enc (.nd w a b bs c), encs tk] m = .ok (enc (.nd w a b bs c), m) := by
  obtain ⟨n, rfl⟩ : ∃ k, n = k + 1 := ⟨n - 1, by omega⟩
  rw [callN_at tab_apart_from rfl]
  have hb := binds_ok (L := L) (n := n - 2) (m := m) hw hm
  rw [show n - 2 + 2 = n by omega] at hb
  have hob : ownB (.nd w a b bs c) = bs := rows_bs hw
  have hlb : bs.length ≤ 4000 := by rw [sz] at hsz; omega
  have hC := comp_binds (m := m) (c := ⟨callN T.tab L n, L⟩) (ρ := [some (enc (.nd w a b bs c)), some (encs tk), none, none, none, none]) (i := 4) (j := 3) (all := (rows (.nd w a b bs c)).map fun r => encs r.2) (t := .nd w a b bs c) (by simp) (by simp) (by decide)
  rw [hob] at hC
  have hM := mkL_lst (m := m) (ds := bs.map D.str) (by rw [List.length_map]; have : LIM = 16777216 := rfl; omega)
  have hrf : refsB 0 (enc (.nd w a b bs c)) = true := refs_enc _
  generalize enc (.nd w a b bs c) = te at hb hC hrf
  have loop := forL_rest (t := .nm 3) (b := b_apart_from_1) (c := ⟨callN T.tab L n, L⟩) (all := bs.map D.str) (g := D.str)
    (E := fun rest ρ m' => ∃ o3, ρ = [some te, some (encs tk), some (.lst (bs.map D.str)), o3, none, none] ∧ m' = m ∧ ∀ y ∈ rest, y ∉ tk)
    (fun x rest ρ m' hE => by
      obtain ⟨o3, rfl, rfl, hr⟩ := hE
      exact ⟨_, _, _, rfl, .inl (apart_turn_no (hr x List.mem_cons_self)), some (.str x), rfl, rfl, fun y hy => hr y (List.mem_cons_of_mem _ hy)⟩)
    (xs := bs) (ρ := [some te, some (encs tk), some (.lst (bs.map D.str)), none, none, none]) (m := m) ⟨none, rfl, rfl, hno⟩
  obtain ⟨ρ', m', h1, o3, rfl, rfl, _⟩ := loop
  refine fin_same ?_ hm hrf
  unfold m_apart_from
  simp only [ev, evd, ev2, R.bind_ok, List.map_cons, List.map_nil, List.length_cons, List.length_nil, List.replicate, List.cons_append, List.nil_append, hb, bindsD, hC, hM, h1]
theorem apart_ok {h N H : Nat} (hR : RepOk L h N H) (hL : 20000 ≤ L) {w : Str} {a b : Tm} {tk : List Str} (htk : tk.length ≤ 4000) (hm : Cl m) : ∀ (k : Nat) {bs : List Str} {c : Tm}, WF (.nd w a b bs c) → Sok (.nd w a b bs c) → ht (.nd w a b bs c) ≤ h + 1 → h + 1 ≤ 40 → sz (.nd w a b bs c) ≤ 4000 → tkn tk bs ≤ k →
    ∀ {n : Nat}, N + 2 + k ≤ n → 6 + k ≤ n → callN T.tab L n "apart_from" [enc (.nd w a b bs c), encs tk] m = .ok (enc (.nd w a b (apt fresh (rpl fresh h) w a b tk k bs c).1 (apt fresh (rpl fresh h) w a b tk k bs c).2), m) := by
  intro k
  induction k with
  | zero =>
    intro bs c hw hs hh h40 hsz hk n hn hn2
    refine apart_none hL hm hw hsz (fun y hy q => ?_) (by omega)
    have : y ∈ bs.filter fun y => decide (y ∈ tk) := List.mem_filter.mpr ⟨hy, decide_eq_true q⟩
    rw [List.length_eq_zero_iff.mp (Nat.le_zero.mp hk)] at this
    cases this
  | succ k ih =>
    intro bs c hw hs hh h40 hsz hk n hn hn2
    unfold apt
    cases hf : bs.find? fun y => decide (y ∈ tk) with
    | none => exact apart_none hL hm hw hsz (find_taken.mp hf) (by omega)
    | some y =>
      dsimp only
      have hyb : y ∈ bs := List.mem_of_find?_eq_some hf
      have hyt : y ∈ tk := by simpa using List.find?_some hf
      obtain ⟨n, rfl⟩ : ∃ k, n = k + 1 := ⟨n - 1, by omega⟩
      rw [callN_at tab_apart_from rfl]
      have hb := binds_ok (L := L) (n := n - 2) (m := m) hw hm
      rw [show n - 2 + 2 = n by omega] at hb
      have hob : ownB (.nd w a b bs c) = bs := rows_bs hw
      have hlb := wf_bs hw
      have hC := comp_binds (m := m) (c := ⟨callN T.tab L n, L⟩) (ρ := [some (enc (.nd w a b bs c)), some (encs tk), none, none, none, none]) (i := 4) (j := 3) (all := (rows (.nd w a b bs c)).map fun r => encs r.2) (t := .nd w a b bs c) (by simp) (by simp) (by decide)
      rw [hob] at hC
      have hM := mkL_lst (m := m) (ds := bs.map D.str) (by rw [List.length_map]; have : LIM = 16777216 := rfl; omega)
      have hN := names_ok (L := L) (n := n - 3) (m := m) hw hs (by omega) hsz hL hm
      rw [show n - 3 + 3 = n by omega] at hN
      have hal := all_len (.nd w a b bs c)
      have hsl := ss_len (allN (.nd w a b bs c))
      have hF := fresh_ok (L := L) (n := n - 2) (m := m) (tk := tk ++ ss (allN (.nd w a b bs c)) ++ bs) hL (by rw [List.length_append, List.length_append]; omega) hm
      rw [show n - 2 + 2 = n by omega] at hF
      have hnew := fresh_out (tk ++ ss (allN (.nd w a b bs c)) ++ bs)
      have hA1 := add_encs (m := m) (xs := tk) (ys := ss (allN (.nd w a b bs c))) (by omega)
      have hA2 := add_encs (m := m) (xs := tk ++ ss (allN (.nd w a b bs c))) (ys := bs) (by rw [List.length_append]; omega)
      have hno := ok_fresh (tk ++ ss (allN (.nd w a b bs c)) ++ bs)
      generalize fresh (tk ++ ss (allN (.nd w a b bs c)) ++ bs) = new at hF hnew hno ⊢
      rw [List.mem_append, List.mem_append, not_or, not_or] at hnew
      have hW := wb_ok hR hw hs hh hsz hyb hno (n := n) (by omega) (by omega) hm
      have hw2 : WF (.nd w a b (bs.map (rb y new)) (rpl fresh h c y (.var new))) := wf_same hw (by rw [List.length_map]) id id (fun hc => wf_rpl hc (.var new)) id id
      have hI := ih hw2 (by
          rw [sok_nd] at hs ⊢
          refine ⟨fun x hx => ?_, hs.2.1, hs.2.2.1, sok_rpl hs.2.2.2 (sok_var.mpr hno)⟩
          obtain ⟨x', hx', rfl⟩ := List.mem_map.mp hx
          unfold rb
          split
          · exact hno
          · exact hs.1 x' hx') (by
          rw [ht] at hh ⊢
          rw [ht_rpl]
          exact hh) h40 (by
          rw [sz] at hsz ⊢
          rw [sz_rpl_var, List.length_map]
          exact hsz) (by have := (tkn_map (tk := tk) (y := y) hnew.1.1 (bs := bs)).2 hyb hyt; omega) (n := n) (by omega) (by omega)
      have hrf : refsB 0 (enc (.nd w a b (apt fresh (rpl fresh h) w a b tk k (bs.map (rb y new)) (rpl fresh h c y (.var new))).1 (apt fresh (rpl fresh h) w a b tk k (bs.map (rb y new)) (rpl fresh h c y (.var new))).2)) = true := refs_enc _
      generalize enc (.nd w a b (apt fresh (rpl fresh h) w a b tk k (bs.map (rb y new)) (rpl fresh h c y (.var new))).1 (apt fresh (rpl fresh h) w a b tk k (bs.map (rb y new)) (rpl fresh h c y (.var new))).2) = res at hI hrf ⊢
      generalize enc (.nd w a b (bs.map (rb y new)) (rpl fresh h c y (.var new))) = te2 at hW hI
      generalize enc (.nd w a b bs c) = te at hb hC hN hW
      unfold encs at hN hF hA1 hA2 hI
      have hyc : cpIn (.str y) (.tup (tk.map D.str)) m = some true := by rw [cpIn_strs, decide_eq_true hyt]
      have loop := forL_ret (t := .nm 3) (b := b_apart_from_1) (c := ⟨callN T.tab L n, L⟩) (all := bs.map D.str) (g := D.str)
        (E := fun rest ρ m' => ∃ o3, ρ = [some te, some (encs tk), some (.lst (bs.map D.str)), o3, none, none] ∧ m' = m ∧ (rest.find? fun y => decide (y ∈ tk)) = some y)
        (F := fun d m' => d = res ∧ m' = m)
        (fun x rest ρ m' hE => by
          obtain ⟨o3, rfl, rfl, hr⟩ := hE
          refine ⟨_, rfl, ?_⟩
          by_cases hx : x ∈ tk
          · rw [List.find?_cons_of_pos (by simpa using hx)] at hr
            cases hr
            refine .inr ⟨res, m', ?_, rfl, rfl⟩
            unfold b_apart_from_1 encs
            simp only [ev, evd, ev2, R.bind_ok, hyc, hN, hA1, hA2, hF, hW, hI]
          · rw [List.find?_cons_of_neg (by simpa using hx)] at hr
            exact .inl ⟨_, _, apart_turn_no hx, some (.str x), rfl, rfl, hr⟩)
        (xs := bs) (ρ := [some te, some (encs tk), some (.lst (bs.map D.str)), none, none, none]) (m := m) ⟨none, rfl, rfl, hf⟩
      rcases loop with ⟨ρ', m', h1, o3, rfl, rfl, hfin⟩ | ⟨d, m', h1, rfl, rfl⟩
      · cases hfin
      · refine fin_same ?_ hm hrf
        unfold m_apart_from
        simp only [ev, evd, ev2, R.bind_ok, List.map_cons, List.map_nil, List.length_cons, List.length_nil, List.replicate, List.cons_append, List.nil_append, hb, bindsD, hC, hM, h1]
theorem rep_var {n : Nat} {x y : Str} {o' : Tm} {h : Nat} (hx : PyData.strOk x = true) (hy : PyData.strOk y = true) (hm : Cl m) : callN T.tab L (n + 1) "replaced" [enc (.var y), .str x, enc o'] m = .ok (enc (rpl fresh h (.var y) x o'), m) := by
  rw [callN_at tab_replaced rfl, rpl_var]
  refine fin_same ?_ hm (refs_enc _)
  have e0 := cpEq_str (m := m) hy hx
  unfold m_replaced
  by_cases q : y = x
  · rw [if_pos q]
    rw [show (y == x) = true by simp [q]] at e0
    simp only [ev, evd, R.bind_ok, List.map_cons, List.map_nil, List.length_cons, List.length_nil, List.replicate, List.cons_append, List.nil_append, enc_shapes, wds, e0]
  · rw [if_neg q]
    rw [show (y == x) = false by simp [q]] at e0
    simp only [ev, evd, R.bind_ok, List.map_cons, List.map_nil, List.length_cons, List.length_nil, List.replicate, List.cons_append, List.nil_append, enc_shapes, wds, e0]
def rpF (h : Nat) (x : Str) (o' : Tm) (r : Tm × List Str) : Tm := if x ∈ r.2 then r.1 else rpl fresh h r.1 x o'
theorem rp_turn {d : D} {x : Str} {o' : Tm} {h : Nat} {r : Tm × List Str} {ps : List D}
    (ho : x ∉ r.2 → o "replaced" [enc r.1, .str x, enc o'] (m ++ [.lst ps]) = .ok (enc (rpl fresh h r.1 x o'), m ++ [.lst ps])) (hl : ps.length ≤ 10000) :
    b_replaced_1 ⟨o, L⟩ [some d, some (.str x), some (enc o'), some (.ref m.length), some (enc r.1), some (encs r.2)] (m ++ [.lst ps]) =
      .ok (.nx [some d, some (.str x), some (enc o'), some (.ref m.length), some (enc r.1), some (encs r.2)], m ++ [.lst (ps ++ [enc (rpF h x o' r)])]) := by
  have hLIM : LIM = 16777216 := rfl
  have g1 : (m ++ [Ob.lst ps])[m.length]? = some (.lst ps) := own_get0
  have l1 := isL_ref g1
  have p1 := app_ref (e := enc (rpF h x o' r)) g1 (by omega)
  rw [own_set0, show ([Ob.lst ps]).set 0 (Ob.lst (ps ++ [enc (rpF h x o' r)])) = [Ob.lst (ps ++ [enc (rpF h x o' r)])] from rfl] at p1
  unfold b_replaced_1
  unfold rpF at p1 ⊢
  by_cases hy : x ∈ r.2
  · have hi : ∀ m, cpIn (.str x) (.tup (r.2.map D.str)) m = some true := fun m => by rw [cpIn_strs, decide_eq_true hy]
    rw [if_pos hy] at p1 ⊢
    unfold encs
    simp only [ev, evd, ev2, R.bind_ok, l1, if_true, hi, p1]
  · have ho := ho hy
    have hi : ∀ m, cpIn (.str x) (.tup (r.2.map D.str)) m = some false := fun m => by rw [cpIn_strs, decide_eq_false hy]
    rw [if_neg hy] at p1 ⊢
    unfold encs
    simp only [ev, evd, ev2, R.bind_ok, l1, if_true, hi, ho, p1]
theorem rows_cnt {t : Tm} (h : WF t) : (rows t).length ≤ 3 := by
  cases h with
  | var x => exact Nat.zero_le _
  | un hw => rcases hw with rfl | rfl | rfl <;> simp [rows_shapes]
  | _ => simp [rows_shapes]
theorem rows_sz1 {t : Tm} (h : WF t) : ∀ r ∈ rows t, sz r.1 ≤ sz t := by
  intro r hr
  cases t with
  | nil => cases h
  | var x => cases hr
  | nd w a b bs c =>
    have h1 := rows_sz h
    have : sz r.1 + r.2.length ≤ ((rows (.nd w a b bs c)).map fun r => sz r.1 + r.2.length).sum := le_sum (List.mem_map.mpr ⟨r, hr, rfl⟩)
    omega
theorem rep_ok (hL : 20000 ≤ L) {H : Nat} (hH : H ≤ 30) : ∀ h, h ≤ 30 → RepOk L h (5 * h + H + 10) H := by
  intro h
  induction h with
  | zero =>
    intro _ n hn t o' x hw hs hh hsz hwo hso hho hszo hx m hm
    obtain ⟨n, rfl⟩ : ∃ k, n = k + 1 := ⟨n - 1, by omega⟩
    cases t with
    | nil => cases hw
    | var y => exact rep_var hx (sok_var.mp hs) hm
    | nd w a b bs c => simp [ht] at hh
  | succ h ih =>
    intro h30 n hn t o' x hw hs hh hsz hwo hso hho hszo hx m hm
    have ih := ih (by omega)
    obtain ⟨n, rfl⟩ : ∃ k, n = k + 1 := ⟨n - 1, by omega⟩
    cases t with
    | nil => cases hw
    | var y => exact rep_var hx (sok_var.mp hs) hm
    | nd w a b bs c =>
      rw [callN_at tab_replaced rfl]
      obtain ⟨hw1, hw2, hw3⟩ := word_nd (m := m) hw
      have hfr := free_ok (L := L) (h + 1) hw hh hsz hs (n := n) (m := m) (by omega) hm
      have hnot : ∀ m, cpNotIn (.str x) (.tup ((free (.nd w a b bs c)).map D.str)) m = some (!decide (x ∈ free (.nd w a b bs c))) := fun m => cpNotIn_strs
      by_cases hxf : x ∈ free (.nd w a b bs c)
      · have hfo := free_ok (L := L) (ht o') hwo (Nat.le_refl _) hszo hso (n := n) (m := m) (by omega) hm
        have hbl := wf_bs hw
        have hA := apart_ok ih hL (w := w) (a := a) (b := b) (tk := free o') (by have := free_len o'; omega) hm bs.length hw hs hh (by omega) hsz (List.length_filter_le _ _) (n := n) (by omega) (by omega)
        have hu : rpl fresh (h + 1) (.nd w a b bs c) x o' = .nd w (rpl fresh h a x o') (rpl fresh h b x o') (apt fresh (rpl fresh h) w a b (free o') bs.length bs c).1
            (if x ∈ (apt fresh (rpl fresh h) w a b (free o') bs.length bs c).1 then (apt fresh (rpl fresh h) w a b (free o') bs.length bs c).2 else rpl fresh h (apt fresh (rpl fresh h) w a b (free o') bs.length bs c).2 x o') := by
          rw [rpl, if_pos hxf]
        rw [hu]
        clear hu
        have hwA : WF (.nd w a b (apt fresh (rpl fresh h) w a b (free o') bs.length bs c).1 (apt fresh (rpl fresh h) w a b (free o') bs.length bs c).2) := wf_apt hw
        have hsA := apt_sok (rp := rpl fresh h) (fun t x y h hy => sok_rpl h (sok_var.mpr hy)) (w := w) (a := a) (b := b) (tk := free o') (k := bs.length) (bs := bs) (c := c) (sok_nd.mp hs).2.2.2 (sok_nd.mp hs).1
        have hhA := apt_ht (n := h) (w := w) (a := a) (b := b) (tk := free o') (k := bs.length) (bs := bs) (c := c)
        have hzA := apt_sz (n := h) (w := w) (a := a) (b := b) (tk := free o') (k := bs.length) (bs := bs) (c := c)
        generalize apt fresh (rpl fresh h) w a b (free o') bs.length bs c = ap at hA hwA hsA hhA hzA ⊢
        obtain ⟨bs', c'⟩ := ap
        dsimp only at hA hwA hsA hhA hzA ⊢
        have hsA' : Sok (.nd w a b bs' c') := sok_nd.mpr ⟨hsA.2, (sok_nd.mp hs).2.1, (sok_nd.mp hs).2.2.1, hsA.1⟩
        have hhA' : ht (.nd w a b bs' c') ≤ h + 1 := by
          rw [ht] at hh ⊢
          rw [hhA]
          exact hh
        have hzA' : sz (.nd w a b bs' c') ≤ 4000 := by
          rw [sz] at hsz ⊢
          rw [hzA.1, hzA.2]
          exact hsz
        have hm1 : Cl (m ++ [.lst []]) := hm.app rfl
        have hp := parts_ok (L := L) (n := n - 1) (m := m ++ [.lst []]) hwA hm1
        have hb := binds_ok (L := L) (n := n - 2) (m := m ++ [.lst []]) hwA hm1
        rw [show n - 1 + 1 = n by omega] at hp
        rw [show n - 2 + 2 = n by omega] at hb
        have hrw := rows_wf2 hwA
        have hrk := rows_sok hwA hsA'
        have hr3 := rows_cnt hwA
        have hr1 := rows_sz1 hwA
        have hmap := rows_map (bs' := bs') hwA rfl (f := rpF h x o') (a' := rpl fresh h a x o') (b' := rpl fresh h b x o') (c' := if x ∈ bs' then c' else rpl fresh h c' x o') (by unfold rpF; rw [if_neg (by simp)]) (by unfold rpF; rw [if_neg (by simp)]) rfl
        have hwp := fun {p : D} {m : Mem} (hm : Cl m) => wparts_ok (L := L) (n := n - 1) (m := m) (a' := rpl fresh h a x o') (b' := rpl fresh h b x o') (c' := if x ∈ bs' then c' else rpl fresh h c' x o') (p := p) hm hwA
        rw [show n - 1 + 1 = n by omega] at hwp
        generalize hrt : rows (.nd w a b bs' c') = rs at hrw hr3 hmap hrk hr1
        have hzp : zipD ((rows (.nd w a b bs' c')).map fun r => enc r.1) ((rows (.nd w a b bs' c')).map fun r => encs r.2) = rs.map fun r => .tup [enc r.1, encs r.2] := by
          rw [zip_rows, hrt]
        generalize enc (.nd w a b bs c) = te0 at hA hw1 hfr
        generalize enc (.nd w a b bs' c') = te at hp hb hwp hA
        generalize hps : (rs.map (rpF h x o')).map enc = PS
        have loop := forL_rest (t := .tp [4, 5]) (b := b_replaced_1) (c := ⟨callN T.tab L n, L⟩) (all := rs.map fun r => .tup [enc r.1, encs r.2]) (g := fun r : Tm × List Str => .tup [enc r.1, encs r.2])
          (E := fun rest ρ m' => ∃ o4 o5 ps, ρ = [some te, some (.str x), some (enc o'), some (.ref m.length), o4, o5] ∧ m' = m ++ [.lst ps] ∧
            ps ++ (rest.map (rpF h x o')).map enc = PS ∧ (∀ r ∈ rest, r ∈ rs) ∧ ∀ k, refsBs k ps = true)
          (fun r rest ρ m' hE => by
            obtain ⟨o4, o5, ps, rfl, rfl, e1, hr, hk⟩ := hE
            have hx' := hr r List.mem_cons_self
            rw [List.map_cons, List.map_cons] at e1
            have hL1 : ps.length ≤ 4000 := by
              have := congrArg List.length e1
              rw [← hps, List.length_append, List.length_map, List.length_map] at this
              omega
            have hmc : Cl (m ++ [.lst ps]) := hm.app (hk _)
            refine ⟨_, _, _, rfl, .inl (rp_turn (h := h) (fun _ => ih _ (by omega) (hrw r hx').1 (hrk r hx') (by have := (hrw r hx').2; omega) (by have := hr1 r hx'; omega) hwo hso hho hszo hx hmc) (by omega)), some _, some _, _, rfl, rfl, ?_, fun r hr' => hr r (List.mem_cons_of_mem _ hr'), fun k => ?_⟩
            · rw [List.append_assoc]
              exact e1
            · rw [refss_append, hk, refsBs, refs_enc]
              rfl)
          (xs := rs) (ρ := [some te, some (.str x), some (enc o'), some (.ref m.length), none, none]) (m := m ++ [.lst []])
          ⟨none, none, [], rfl, rfl, hps, fun r h => h, fun _ => rfl⟩
        obtain ⟨ρ', m', h1, o4, o5, ps, rfl, rfl, e1, _, hk⟩ := loop
        rw [List.map_nil, List.map_nil, List.append_nil] at e1
        subst e1
        have hmc : Cl (m ++ [.lst ps]) := hm.app (hk _)
        have g1 : (m ++ [Ob.lst ps])[m.length]? = some (.lst ps) := own_get0
        have hwp := hwp (p := .ref m.length) hmc (by
          rw [items_ref g1, ← hps, hmap, List.map_map]
          rfl)
        refine fin_data (l := [Ob.lst ps]) ?_ hm (refs_enc _)
        have hd : decide (x ∈ free (.nd w a b bs c)) = true := decide_eq_true hxf
        rw [hd] at hnot
        unfold encs at hfr hfo hA
        unfold m_replaced
        simp only [ev, evd, R.bind_ok, List.map_cons, List.map_nil, List.length_cons, List.length_nil, List.replicate, List.cons_append, List.nil_append, hw1, hw2, hw3, wds, hfr, hnot, hfo, hA, hp, hb, partsD, bindsD, hzp, h1, hwp]
      · rw [show rpl fresh (h + 1) (.nd w a b bs c) x o' = .nd w a b bs c by rw [rpl, if_neg hxf]]
        refine fin_same ?_ hm (refs_enc _)
        have hd : decide (x ∈ free (.nd w a b bs c)) = false := decide_eq_false hxf
        rw [hd] at hnot
        unfold encs at hfr
        generalize enc (.nd w a b bs c) = te at hw1 hfr ⊢
        unfold m_replaced
        simp only [ev, evd, R.bind_ok, List.map_cons, List.map_nil, List.length_cons, List.length_nil, List.replicate, List.cons_append, List.nil_append, hw1, hw2, hw3, wds, hfr, hnot]
end
end K05

set_option maxHeartbeats 4000000
/-! K05q: trees as data; one datum, one tree -/
namespace K05
open PySem Fp L2
def emS : Str := ("" : Str)
def encT : Tr → D
  | .nil => .non
  | .lf (.fv x) => .tup [.str "var", .str x]
  | .lf (.bv k) => .tup [.str "var", .int (k : Int)]
  | .nd w a b k c => match kind w with
    | 0 => .tup [.str w, .str emS, .tup [.int (k : Int)], .tup [encT c]]
    | 1 => .tup [.str w, .str emS, .tup [.int (k : Int)], .tup [encT c]]
    | 2 => .tup [.str w, .str emS, .tup [.int 0, .int (k : Int)], .tup [encT a, encT c]]
    | 3 => .tup [.str w, .str emS, .tup [.int 0, .int (k : Int)], .tup [encT a, encT c]]
    | _ => .tup [.str w, .str emS, .tup [.int 0, .int 0, .int (k : Int)], .tup [encT a, encT b, encT c]]
theorem encT_shapes :
    (∀ a b k c, encT (.nd "app" a b k c) = .tup [.str "app", .str emS, .tup [.int 0, .int (k : Int)], .tup [encT a, encT c]]) ∧
    (∀ a b k c, encT (.nd "quote" a b k c) = .tup [.str "quote", .str emS, .tup [.int (k : Int)], .tup [encT c]]) ∧
    (∀ a b k c, encT (.nd "splice" a b k c) = .tup [.str "splice", .str emS, .tup [.int (k : Int)], .tup [encT c]]) ∧
    (∀ a b k c, encT (.nd "lift" a b k c) = .tup [.str "lift", .str emS, .tup [.int (k : Int)], .tup [encT c]]) ∧
    (∀ a b k c, encT (.nd "fun" a b k c) = .tup [.str "fun", .str emS, .tup [.int (k : Int)], .tup [encT c]]) ∧
    (∀ a b k c, encT (.nd "let" a b k c) = .tup [.str "let", .str emS, .tup [.int 0, .int (k : Int)], .tup [encT a, encT c]]) ∧
    (∀ a b k c, encT (.nd "fold" a b k c) = .tup [.str "fold", .str emS, .tup [.int 0, .int 0, .int (k : Int)], .tup [encT a, encT b, encT c]]) ∧
    (∀ a b k c, encT (.nd "loop" a b k c) = .tup [.str "loop", .str emS, .tup [.int 0, .int 0, .int (k : Int)], .tup [encT a, encT b, encT c]]) ∧
    (∀ x, encT (.lf (.fv x)) = .tup [.str "var", .str x]) ∧
    (∀ k, encT (.lf (.bv k)) = .tup [.str "var", .int (k : Int)]) := by
  refine ⟨?_, ?_, ?_, ?_, ?_, ?_, ?_, ?_, ?_, ?_⟩ <;> intros <;> kernel_rfl
theorem refs_encT {k : Nat} : ∀ t : Tr, refsB k (encT t) = true
  | .nil => rfl
  | .lf (.fv x) => rfl
  | .lf (.bv x) => rfl
  | .nd w a b j c => by
    unfold encT
    split <;> simp only [refsB, refsBs, refs_encT a, refs_encT b, refs_encT c, Bool.and_true, Bool.true_and]
/-- which parts a tree has -/
def wft : Tr → Prop
  | .nil => False
  | .lf _ => True
  | .nd w a b _ c => wft c ∧ (match kind w with
    | 0 => a = .nil ∧ b = .nil
    | 1 => a = .nil ∧ b = .nil
    | 2 => wft a ∧ b = .nil
    | 3 => wft a ∧ b = .nil
    | _ => wft a ∧ wft b)
theorem encT_inj : ∀ {a b : Tr}, wft a → wft b → encT a = encT b → a = b
  | .nil, _, h, _, _ => absurd h (by simp [wft])
  | _, .nil, _, h, _ => absurd h (by simp [wft])
  | .lf (.fv x), .lf (.fv y), _, _, h => by simp only [encT, D.tup.injEq, List.cons.injEq, D.str.injEq] at h; rw [h.2.1]
  | .lf (.fv x), .lf (.bv y), _, _, h => by simp [encT] at h
  | .lf (.bv x), .lf (.fv y), _, _, h => by simp [encT] at h
  | .lf (.bv x), .lf (.bv y), _, _, h => by
    simp only [encT, D.tup.injEq, List.cons.injEq, D.int.injEq] at h
    have := h.2.1
    rw [show x = y by omega]
  | .lf (.fv x), .nd w a b k c, _, _, h => by
    exfalso
    unfold encT at h
    split at h <;> simp at h
  | .lf (.bv x), .nd w a b k c, _, _, h => by
    exfalso
    unfold encT at h
    split at h <;> simp at h
  | .nd w a b k c, .lf (.fv x), _, _, h => by
    exfalso
    unfold encT at h
    split at h <;> simp at h
  | .nd w a b k c, .lf (.bv x), _, _, h => by
    exfalso
    unfold encT at h
    split at h <;> simp at h
  | .nd w a b k c, .nd w' a' b' k' c', h1, h2, h => by
    have hw : w = w' := by
      unfold encT at h
      split at h <;> split at h <;> simp at h <;> exact h.1
    subst hw
    unfold wft at h1 h2
    unfold encT at h
    obtain ⟨hc, h1⟩ := h1
    obtain ⟨hc', h2⟩ := h2
    generalize kind w = kd at h h1 h2
    match kd, h, h1, h2 with
    | 0, h, h1, h2 =>
      simp only [D.tup.injEq, List.cons.injEq, D.int.injEq, and_true, true_and] at h
      rw [h1.1, h1.2, h2.1, h2.2, encT_inj hc hc' h.2, show k = k' by have := h.1; omega]
    | 1, h, h1, h2 =>
      simp only [D.tup.injEq, List.cons.injEq, D.int.injEq, and_true, true_and] at h
      rw [h1.1, h1.2, h2.1, h2.2, encT_inj hc hc' h.2, show k = k' by have := h.1; omega]
    | 2, h, h1, h2 =>
      simp only [D.tup.injEq, List.cons.injEq, D.int.injEq, and_true, true_and] at h
      rw [h1.2, h2.2, encT_inj h1.1 h2.1 h.2.1, encT_inj hc hc' h.2.2, show k = k' by have := h.1; omega]
    | 3, h, h1, h2 =>
      simp only [D.tup.injEq, List.cons.injEq, D.int.injEq, and_true, true_and] at h
      rw [h1.2, h2.2, encT_inj h1.1 h2.1 h.2.1, encT_inj hc hc' h.2.2, show k = k' by have := h.1; omega]
    | kd + 4, h, h1, h2 =>
      simp only [D.tup.injEq, List.cons.injEq, D.int.injEq, and_true, true_and] at h
      rw [encT_inj h1.1 h2.1 h.2.1, encT_inj h1.2 h2.2 h.2.2.1, encT_inj hc hc' h.2.2.2, show k = k' by have := h.1; omega]
section
variable {β : Nat → Nat → Nat}
theorem bindE_wft : ∀ {bs : List Str} {l : Nat} {E : Env}, (∀ x d, wft (E x d)) → ∀ x d, wft (bindE β bs l E x d)
  | [], _, _, h, x, d => h x d
  | b :: bs, l, E, h, x, d => by
    unfold bindE
    refine bindE_wft (fun x d => ?_) x d
    split
    · trivial
    · exact h x d
theorem wft_shapes :
    (∀ a b k c, wft (.nd "app" a b k c) ↔ wft c ∧ wft a ∧ b = .nil) ∧
    (∀ a b k c, wft (.nd "quote" a b k c) ↔ wft c ∧ a = .nil ∧ b = .nil) ∧
    (∀ a b k c, wft (.nd "splice" a b k c) ↔ wft c ∧ a = .nil ∧ b = .nil) ∧
    (∀ a b k c, wft (.nd "lift" a b k c) ↔ wft c ∧ a = .nil ∧ b = .nil) ∧
    (∀ a b k c, wft (.nd "fun" a b k c) ↔ wft c ∧ a = .nil ∧ b = .nil) ∧
    (∀ a b k c, wft (.nd "let" a b k c) ↔ wft c ∧ wft a ∧ b = .nil) ∧
    (∀ a b k c, wft (.nd "fold" a b k c) ↔ wft c ∧ wft a ∧ wft b) ∧
    (∀ a b k c, wft (.nd "loop" a b k c) ↔ wft c ∧ wft a ∧ wft b) := by
  refine ⟨?_, ?_, ?_, ?_, ?_, ?_, ?_, ?_⟩ <;> intros <;> exact Iff.of_eq (by kernel_rfl)
theorem den_wft {t : Tm} (h : WF t) : ∀ {E : Env} {d : Nat}, (∀ x d, wft (E x d)) → wft (den β t E d) := by
  induction h with
  | var x => intro E d hE; exact hE x d
  | un hw hc ih =>
    intro E d hE
    rcases hw with rfl | rfl | rfl <;>
    · rw [den]
      simp only [wft_shapes, den, and_self, and_true]
      exact ih (bindE_wft hE)
  | fn hc ih =>
    intro E d hE
    rw [den]
    simp only [wft_shapes, den, and_self, and_true]
    exact ih (bindE_wft hE)
  | lt ha hc iha ihc =>
    intro E d hE
    rw [den]
    simp only [wft_shapes, den, and_self, and_true]
    exact ⟨ihc (bindE_wft hE), iha hE⟩
  | app ha hc iha ihc =>
    intro E d hE
    rw [den]
    simp only [wft_shapes, den, and_self, and_true]
    exact ⟨ihc (bindE_wft hE), iha hE⟩
  | fold ha hb hc iha ihb ihc =>
    intro E d hE
    rw [den]
    simp only [wft_shapes, den, and_self, and_true]
    exact ⟨ihc (bindE_wft hE), iha hE, ihb hE⟩
  | loop ha hb hc iha ihb ihc =>
    intro E d hE
    rw [den]
    simp only [wft_shapes, den, and_self, and_true]
    exact ⟨ihc (bindE_wft hE), iha hE, ihb hE⟩
theorem wft_E0 (x : Str) (d : Nat) : wft (E0 x d) := trivial
/-- a tree's datum, by the rows of its term -/
theorem encT_den {w : Str} {a b c : Tm} {bs : List Str} (h : WF (.nd w a b bs c)) {E : Env} {d : Nat} : encT (den β (.nd w a b bs c) E d) =
    .tup [.str w, .str emS, .tup ((rows (.nd w a b bs c)).map fun r => .int (r.2.length : Int)), .tup ((rows (.nd w a b bs c)).map fun r => encT (den β r.1 (bindE β r.2 d E) (d + r.2.length)))] := by
  cases h with
  | un hw =>
    rcases hw with rfl | rfl | rfl <;>
    · rw [den]
      simp only [encT_shapes, rows_shapes, List.map_cons, List.map_nil]
  | fn _ =>
    rw [den]
    simp only [encT_shapes, rows_shapes, List.map_cons, List.map_nil]
  | lt _ _ =>
    rw [den]
    simp only [encT_shapes, rows_shapes, List.map_cons, List.map_nil, bindE, List.length_nil, Nat.add_zero]
    rfl
  | app _ _ =>
    rw [den]
    simp only [encT_shapes, rows_shapes, List.map_cons, List.map_nil, bindE, List.length_nil, Nat.add_zero]
    rfl
  | fold _ _ _ =>
    rw [den]
    simp only [encT_shapes, rows_shapes, List.map_cons, List.map_nil, bindE, List.length_nil, Nat.add_zero]
    rfl
  | loop _ _ _ =>
    rw [den]
    simp only [encT_shapes, rows_shapes, List.map_cons, List.map_nil, bindE, List.length_nil, Nat.add_zero]
    rfl
end
/-! one datum, one term -/
def wfk : Tm → Prop
  | .nil => False
  | .var _ => True
  | .nd w a b bs c => wfk c ∧ w ≠ ("var" : Str) ∧ (match kind w with
    | 0 => a = .nil ∧ b = .nil ∧ bs = []
    | 1 => a = .nil ∧ b = .nil
    | 2 => wfk a ∧ b = .nil
    | 3 => wfk a ∧ b = .nil ∧ bs = []
    | _ => wfk a ∧ wfk b)
theorem wfk_shapes :
    (∀ a b bs c, wfk (.nd "app" a b bs c) = (wfk c ∧ ("app" : Str) ≠ ("var" : Str) ∧ wfk a ∧ b = .nil ∧ bs = [])) ∧
    (∀ a b bs c, wfk (.nd "quote" a b bs c) = (wfk c ∧ ("quote" : Str) ≠ ("var" : Str) ∧ a = .nil ∧ b = .nil ∧ bs = [])) ∧
    (∀ a b bs c, wfk (.nd "splice" a b bs c) = (wfk c ∧ ("splice" : Str) ≠ ("var" : Str) ∧ a = .nil ∧ b = .nil ∧ bs = [])) ∧
    (∀ a b bs c, wfk (.nd "lift" a b bs c) = (wfk c ∧ ("lift" : Str) ≠ ("var" : Str) ∧ a = .nil ∧ b = .nil ∧ bs = [])) ∧
    (∀ a b bs c, wfk (.nd "fun" a b bs c) = (wfk c ∧ ("fun" : Str) ≠ ("var" : Str) ∧ a = .nil ∧ b = .nil)) ∧
    (∀ a b bs c, wfk (.nd "let" a b bs c) = (wfk c ∧ ("let" : Str) ≠ ("var" : Str) ∧ wfk a ∧ b = .nil)) ∧
    (∀ a b bs c, wfk (.nd "fold" a b bs c) = (wfk c ∧ ("fold" : Str) ≠ ("var" : Str) ∧ wfk a ∧ wfk b)) ∧
    (∀ a b bs c, wfk (.nd "loop" a b bs c) = (wfk c ∧ ("loop" : Str) ≠ ("var" : Str) ∧ wfk a ∧ wfk b)) := by
  refine ⟨?_, ?_, ?_, ?_, ?_, ?_, ?_, ?_⟩ <;> intros <;> kernel_rfl
theorem ne_var :
    (("app" : Str) ≠ ("var" : Str)) ∧ (("quote" : Str) ≠ ("var" : Str)) ∧ (("splice" : Str) ≠ ("var" : Str)) ∧ (("lift" : Str) ≠ ("var" : Str)) ∧ (("fun" : Str) ≠ ("var" : Str)) ∧ (("let" : Str) ≠ ("var" : Str)) ∧ (("fold" : Str) ≠ ("var" : Str)) ∧ (("loop" : Str) ≠ ("var" : Str)) := by
  refine ⟨?_, ?_, ?_, ?_, ?_, ?_, ?_, ?_⟩ <;> decide +kernel
theorem wf_k {t : Tm} (h : WF t) : wfk t := by
  obtain ⟨n1, n2, n3, n4, n5, n6, n7, n8⟩ := ne_var
  induction h with
  | var x => trivial
  | un hw hc ih =>
    rcases hw with rfl | rfl | rfl
    · rw [wfk_shapes.2.1]; exact ⟨ih, n2, rfl, rfl, rfl⟩
    · rw [wfk_shapes.2.2.1]; exact ⟨ih, n3, rfl, rfl, rfl⟩
    · rw [wfk_shapes.2.2.2.1]; exact ⟨ih, n4, rfl, rfl, rfl⟩
  | fn hc ih => rw [wfk_shapes.2.2.2.2.1]; exact ⟨ih, n5, rfl, rfl⟩
  | lt ha hc iha ihc => rw [wfk_shapes.2.2.2.2.2.1]; exact ⟨ihc, n6, iha, rfl⟩
  | app ha hc iha ihc => rw [wfk_shapes.1]; exact ⟨ihc, n1, iha, rfl, rfl⟩
  | fold ha hb hc iha ihb ihc => rw [wfk_shapes.2.2.2.2.2.2.1]; exact ⟨ihc, n7, iha, ihb⟩
  | loop ha hb hc iha ihb ihc => rw [wfk_shapes.2.2.2.2.2.2.2]; exact ⟨ihc, n8, iha, ihb⟩
theorem strs_inj {xs ys : List Str} (h : xs.map D.str = ys.map D.str) : xs = ys := by
  have := congrArg (fun ds : List D => ds.map fun d => match d with | .str x => x | _ => emS) h
  simpa [List.map_map, Function.comp_def] using this
theorem enc_injk : ∀ {t u : Tm}, wfk t → wfk u → enc t = enc u → t = u
  | .nil, _, h, _, _ => absurd h (by simp [wfk])
  | _, .nil, _, h, _ => absurd h (by simp [wfk])
  | .var x, .var y, _, _, h => by simp only [enc, D.tup.injEq, List.cons.injEq, D.str.injEq] at h; rw [h.2.1]
  | .var x, .nd w a b bs c, _, h2, h => by
    exfalso
    unfold wfk at h2
    unfold enc at h
    split at h <;> simp only [D.tup.injEq, List.cons.injEq, D.str.injEq] at h <;> exact h2.2.1 h.1.symm
  | .nd w a b bs c, .var x, h2, _, h => by
    exfalso
    unfold wfk at h2
    unfold enc at h
    split at h <;> simp only [D.tup.injEq, List.cons.injEq, D.str.injEq] at h <;> exact h2.2.1 h.1
  | .nd w a b bs c, .nd w' a' b' bs' c', h1, h2, h => by
    have hw : w = w' := by
      unfold enc at h
      split at h <;> split at h <;> simp only [D.tup.injEq, List.cons.injEq, D.str.injEq] at h <;> exact h.1
    subst hw
    unfold wfk at h1 h2
    unfold enc at h
    obtain ⟨hc, _, h1⟩ := h1
    obtain ⟨hc', _, h2⟩ := h2
    generalize kind w = kd at h h1 h2
    match kd, h, h1, h2 with
    | 0, h, h1, h2 =>
      simp only [D.tup.injEq, List.cons.injEq, and_true, true_and] at h
      rw [h1.1, h1.2.1, h1.2.2, h2.1, h2.2.1, h2.2.2, enc_injk hc hc' h]
    | 1, h, h1, h2 =>
      simp only [D.tup.injEq, List.cons.injEq, and_true, true_and] at h
      have q := List.append_inj' h rfl
      simp only [List.cons.injEq, and_true] at q
      rw [h1.1, h1.2, h2.1, h2.2, strs_inj q.1, enc_injk hc hc' q.2]
    | 2, h, h1, h2 =>
      simp only [D.tup.injEq, List.cons.injEq, and_true, true_and] at h
      have q := List.append_inj' h rfl
      simp only [List.cons.injEq, and_true] at q
      rw [h1.2, h2.2, strs_inj q.1, enc_injk h1.1 h2.1 q.2.1, enc_injk hc hc' q.2.2]
    | 3, h, h1, h2 =>
      simp only [D.tup.injEq, List.cons.injEq, and_true, true_and] at h
      rw [h1.2.1, h2.2.1, h1.2.2, h2.2.2, enc_injk h1.1 h2.1 h.1, enc_injk hc hc' h.2]
    | kd + 4, h, h1, h2 =>
      simp only [D.tup.injEq, List.cons.injEq, and_true, true_and] at h
      have q := List.append_inj' h.2.2 rfl
      simp only [List.cons.injEq, and_true] at q
      rw [enc_injk h1.1 h2.1 h.1, enc_injk h1.2 h2.2 h.2.1, strs_inj q.1, enc_injk hc hc' q.2]
theorem enc_inj {t u : Tm} (h : WF t) (h' : WF u) (e : enc t = enc u) : t = u := enc_injk (wf_k h) (wf_k h') e
end K05

set_option maxHeartbeats 4000000
/-! K05j: _law_bound, _law_free -/
namespace K05
open PySem Fp L2
section
variable {L n : Nat} {m : Mem} {o : Str → List D → Mem → RD}
theorem ix_mid {α : Type} {f : α → D} {rs pre rest : List α} {x : α} (e : rs = pre ++ x :: rest) : opIx (.tup (rs.map f)) (.int (pre.length : Int)) m = .ok (f x, m) := by
  rw [Fp.ix_tup, e, List.map_append, List.map_cons]
  rw [List.getElem?_append_right (by rw [List.length_map]; exact Nat.le_refl _)]
  simp
theorem rows_szs {t : Tm} (hw : WF t) : ((rows t).map fun r => sz r.1 + r.2.length).sum ≤ sz t := by
  cases t with
  | nil => cases hw
  | var x => exact Nat.zero_le _
  | nd w a b bs c => have := rows_sz hw; omega
theorem lbound_turn {te : D} {rs pre rest : List (Tm × List Str)} {r : Tm × List Str} {acc : List Str} (e : rs = pre ++ r :: rest) (ho : o "_law_bound" [enc r.1] m = .ok (lstS (bnd r.1), m)) (hl : acc.length + (r.2.length + (bnd r.1).length) ≤ LIM) :
    b__law_bound_1 ⟨o, L⟩ [some te, some (.int (pre.length : Int)), some (lstS acc), some (.tup (rs.map fun r => enc r.1)), some (.tup (rs.map fun r => encs r.2))] m =
      .ok (.nx [some te, some (.int (pre.length : Int)), some (lstS (acc ++ (r.2 ++ bnd r.1))), some (.tup (rs.map fun r => enc r.1)), some (.tup (rs.map fun r => encs r.2))], m) := by
  have h1 := ix_mid (m := m) (f := fun r : Tm × List Str => enc r.1) e
  have h2 := ix_mid (m := m) (f := fun r : Tm × List Str => encs r.2) e
  have hM : biList false (encs r.2) m = .ok (.lst (r.2.map D.str), m) := list_tup (m := m) (ds := r.2.map D.str) (by rw [List.length_map]; omega)
  have hA := add_lst (m := m) (xs := acc.map D.str) (ys := r.2.map D.str) (by rw [List.length_map, List.length_map]; omega)
  have hB := add_lst (m := m) (xs := acc.map D.str ++ r.2.map D.str) (ys := (bnd r.1).map D.str) (by rw [List.length_append, List.length_map, List.length_map, List.length_map]; omega)
  unfold lstS at ho ⊢
  rw [show (acc ++ (r.2 ++ bnd r.1)).map D.str = acc.map D.str ++ r.2.map D.str ++ (bnd r.1).map D.str by simp]
  unfold b__law_bound_1
  simp only [ev, evd, evb, h1, h2, hM, hA, hB, ho]
theorem lbound_ok : ∀ (h : Nat) {t : Tm}, WF t → ht t ≤ h → sz t ≤ 4000 → ∀ {n : Nat} {m : Mem}, h + 3 ≤ n → Cl m → callN T.tab L n "_law_bound" [enc t] m = .ok (lstS (bnd t), m) := by
  intro h
  induction h using Nat.strongRecOn with
  | ind h ih =>
    intro t hw hh hsz n m hn hm
    obtain ⟨n, rfl⟩ : ∃ k, n = k + 1 := ⟨n - 1, by omega⟩
    rw [callN_at tab__law_bound rfl]
    have hp := lparts_ok (L := L) (n := n - 1) (m := m) hw hm
    have hb := lbinds_ok (L := L) (n := n - 2) (m := m) hw hm
    rw [show n - 1 + 1 = n by omega] at hp
    rw [show n - 2 + 2 = n by omega] at hb
    have hf := bnd_rows hw
    have hrw := rows_wf2 hw
    have hrs := rows_szs hw
    have hr3 := rows_cnt hw
    unfold partsD at hp
    unfold bindsD at hb
    generalize rows t = rs at hf hrw hrs hr3 hp hb
    generalize hte : enc t = te at hp hb
    have loop := forL_ix (t := .nm 1) (b := b__law_bound_1) (c := ⟨callN T.tab L n, L⟩) (all := upto 0 rs.length) (xs := rs)
      (E := fun pre ρ m' => ∃ o2, ρ = [some te, o2, some (lstS (pre.map fun r => r.2 ++ bnd r.1).flatten), some (.tup (rs.map fun r => enc r.1)), some (.tup (rs.map fun r => encs r.2))] ∧ m' = m ∧
        (pre.map fun r => r.2 ++ bnd r.1).flatten.length ≤ (pre.map fun r => sz r.1 + r.2.length).sum)
      (fun pre x rest ρ m' e hE => by
        obtain ⟨o2, rfl, rfl, l⟩ := hE
        have hx : x ∈ rs := by rw [e]; simp
        have hfl := bnd_len x.1
        have hs : (rs.map fun r => sz r.1 + r.2.length).sum = (pre.map fun r => sz r.1 + r.2.length).sum + (sz x.1 + x.2.length + (rest.map fun r => sz r.1 + r.2.length).sum) := by
          rw [e, List.map_append, List.map_cons, List.sum_append, List.sum_cons]
        refine ⟨_, _, _, rfl, .inl (lbound_turn e (ih (ht x.1) (by have := (hrw x hx).2; omega) (hrw x hx).1 (Nat.le_refl _) (by omega) (by have := (hrw x hx).2; omega) hm) (by have : LIM = 16777216 := rfl; omega)), some (.int (pre.length : Int)), ?_, rfl, ?_⟩
        · rw [List.map_append, List.flatten_append]
          simp only [List.map_cons, List.map_nil, List.flatten_cons, List.flatten_nil, List.append_nil]
        · rw [List.map_append, List.flatten_append, List.length_append, List.map_append, List.sum_append]
          simp only [List.map_cons, List.map_nil, List.flatten_cons, List.flatten_nil, List.append_nil, List.length_append, List.sum_cons, List.sum_nil]
          omega)
      (ρ := [some te, none, some (lstS []), some (.tup (rs.map fun r => enc r.1)), some (.tup (rs.map fun r => encs r.2))]) (m := m)
      ⟨none, rfl, rfl, Nat.zero_le _⟩
    obtain ⟨ρ', m', h1, o2, rfl, rfl, l⟩ := loop
    rw [← hf] at h1
    have hR := ran_ok (a := sCons (sApp (one biLen) (sCons (sVar 3) sNil)) sNil) (c := ⟨callN T.tab L n, L⟩) (ρ := [some te, none, some (.lst []), some (.tup (rs.map fun r => enc r.1)), some (.tup (rs.map fun r => encs r.2))]) (m := m') (m' := m') (k := rs.length) (by simp only [ev, evd, evb, List.length_map]) (by omega)
    refine fin_same ?_ hm (refs_lstS _)
    unfold m__law_bound
    unfold lstS at h1 ⊢
    rw [List.map_nil] at h1
    simp only [ev, evd, evb, List.map_cons, List.map_nil, List.length_cons, List.length_nil, List.replicate, List.cons_append, List.nil_append, hp, hb, hR, h1]
theorem lfree_turn {te : D} {rs pre rest : List (Tm × List Str)} {r : Tm × List Str} {acc : List Str} (e : rs = pre ++ r :: rest) (ho : o "_law_free" [enc r.1] m = .ok (lstS (free r.1), m)) (hl : acc.length + (free r.1).length ≤ 100000) :
    b__law_free_1 ⟨o, L⟩ [some te, some (.int (pre.length : Int)), some (lstS acc), some (.tup (rs.map fun r => enc r.1)), some (.tup (rs.map fun r => encs r.2)), none] m =
      .ok (.nx [some te, some (.int (pre.length : Int)), some (lstS (acc ++ flt r.2 (free r.1))), some (.tup (rs.map fun r => enc r.1)), some (.tup (rs.map fun r => encs r.2)), none], m) := by
  have hLIM : LIM = 16777216 := rfl
  have hfl := flt_len r.2 (free r.1)
  have h1 := ix_mid (m := m) (f := fun r : Tm × List Str => enc r.1) e
  have h2 := ix_mid (m := m) (f := fun r : Tm × List Str => encs r.2) e
  unfold lstS at ho ⊢
  generalize (rs.map fun r => enc r.1) = P at h1 ⊢
  generalize (rs.map fun r => encs r.2) = B at h2 ⊢
  have hC : compL (Fp.compTurn (.nm 5) (stCmp cpNotIn (sVar 5) (sOp opIx (sVar 4) (sVar 1))) (sVar 5) ⟨o, L⟩ (wipeD [some te, some (.int (pre.length : Int)), some (.lst (acc.map D.str)), some (.tup P), some (.tup B), none] [5])) none ((free r.1).map D.str) ((free r.1).map D.str) m = .ok ((flt r.2 (free r.1)).map D.str, m) := by
    refine compL_filter (p := fun x => !r.2.contains x) fun x _ => ?_
    unfold Fp.compTurn
    have h3 : cpNotIn (.str x) (encs r.2) m = some (!decide (x ∈ r.2)) := cpNotIn_strs
    simp only [asgD, wipeD, ev, evd, evb, h2, h3]
    by_cases q : x ∈ r.2
    · simp [q]
    · simp [q]
  have hM := mkL_lst (m := m) (ds := (flt r.2 (free r.1)).map D.str) (by rw [List.length_map]; omega)
  have hA := add_lst (m := m) (xs := acc.map D.str) (ys := (flt r.2 (free r.1)).map D.str) (by rw [List.length_map, List.length_map]; omega)
  rw [← List.map_append] at hA
  unfold b__law_free_1
  simp only [ev, evd, evb, h1, ho, hC, hM, hA]
theorem lfree_ok : ∀ (h : Nat) {t : Tm}, WF t → ht t ≤ h → sz t ≤ 4000 → (∀ x ∈ allN t, PyData.strOk x = true) → ∀ {n : Nat} {m : Mem}, h + 3 ≤ n → Cl m → callN T.tab L n "_law_free" [enc t] m = .ok (lstS (free t), m) := by
  intro h
  induction h using Nat.strongRecOn with
  | ind h ih =>
    intro t hw hh hsz hns n m hn hm
    obtain ⟨n, rfl⟩ : ∃ k, n = k + 1 := ⟨n - 1, by omega⟩
    rw [callN_at tab__law_free rfl]
    cases t with
    | nil => cases hw
    | var x =>
      refine fin_same ?_ hm rfl
      unfold m__law_free
      simp only [ev, evd, evb, List.map_cons, List.map_nil, List.length_cons, List.length_nil, List.replicate, List.cons_append, List.nil_append, enc_shapes, wds]
      rfl
    | nd w a b bs c =>
    obtain ⟨hw1, hw2, hw3⟩ := word_nd (m := m) hw
    have hp := lparts_ok (L := L) (n := n - 1) (m := m) hw hm
    have hb := lbinds_ok (L := L) (n := n - 2) (m := m) hw hm
    rw [show n - 1 + 1 = n by omega] at hp
    rw [show n - 2 + 2 = n by omega] at hb
    have hf := free_rows hw
    have hrw := rows_wf2 hw
    have hrk := rows_sok hw hns
    have hrs := rows_szs hw
    have hr3 := rows_cnt hw
    unfold partsD at hp
    unfold bindsD at hb
    generalize rows (.nd w a b bs c) = rs at hf hrw hrs hr3 hp hb hrk
    generalize hte : enc (.nd w a b bs c) = te at hp hb hw1
    have loop := forL_ix (t := .nm 1) (b := b__law_free_1) (c := ⟨callN T.tab L n, L⟩) (all := upto 0 rs.length) (xs := rs)
      (E := fun pre ρ m' => ∃ o2, ρ = [some te, o2, some (lstS (pre.map fun r => flt r.2 (free r.1)).flatten), some (.tup (rs.map fun r => enc r.1)), some (.tup (rs.map fun r => encs r.2)), none] ∧ m' = m ∧
        (pre.map fun r => flt r.2 (free r.1)).flatten.length ≤ (pre.map fun r => sz r.1 + r.2.length).sum)
      (fun pre x rest ρ m' e hE => by
        obtain ⟨o2, rfl, rfl, l⟩ := hE
        have hx : x ∈ rs := by rw [e]; simp
        have hfl := free_len x.1
        have hfl2 := flt_len x.2 (free x.1)
        have hs : (rs.map fun r => sz r.1 + r.2.length).sum = (pre.map fun r => sz r.1 + r.2.length).sum + (sz x.1 + x.2.length + (rest.map fun r => sz r.1 + r.2.length).sum) := by
          rw [e, List.map_append, List.map_cons, List.sum_append, List.sum_cons]
        refine ⟨_, _, _, rfl, .inl (lfree_turn e (ih (ht x.1) (by have := (hrw x hx).2; omega) (hrw x hx).1 (Nat.le_refl _) (by omega) (hrk x hx) (by have := (hrw x hx).2; omega) hm) (by omega)), some (.int (pre.length : Int)), ?_, rfl, ?_⟩
        · rw [List.map_append, List.flatten_append]
          simp only [List.map_cons, List.map_nil, List.flatten_cons, List.flatten_nil, List.append_nil]
        · rw [List.map_append, List.flatten_append, List.length_append, List.map_append, List.sum_append]
          simp only [List.map_cons, List.map_nil, List.flatten_cons, List.flatten_nil, List.append_nil, List.length_append, List.sum_cons, List.sum_nil]
          omega)
      (ρ := [some te, none, some (lstS []), some (.tup (rs.map fun r => enc r.1)), some (.tup (rs.map fun r => encs r.2)), none]) (m := m)
      ⟨none, rfl, rfl, Nat.zero_le _⟩
    obtain ⟨ρ', m', h1, o2, rfl, rfl, l⟩ := loop
    have hR := ran_ok (a := sCons (sApp (one biLen) (sCons (sVar 3) sNil)) sNil) (c := ⟨callN T.tab L n, L⟩) (ρ := [some te, none, some (.lst []), some (.tup (rs.map fun r => enc r.1)), some (.tup (rs.map fun r => encs r.2)), none]) (m := m') (m' := m') (k := rs.length) (by simp only [ev, evd, evb, List.length_map]) (by omega)
    generalize hacc : (rs.map fun r => flt r.2 (free r.1)).flatten = acc at h1 hf l
    have hS := sortSet_ok (d := lstS acc) (m := m') (xs := acc) rfl (by omega)
    refine fin_same ?_ hm (refs_lstS _)
    unfold m__law_free
    unfold lstS at h1 hS ⊢
    rw [List.map_nil] at h1
    simp only [ev, evd, evb, List.map_cons, List.map_nil, List.length_cons, List.length_nil, List.replicate, List.cons_append, List.nil_append, hw1, hw2, hw3, wds, hp, hb, hR, h1, hS]
    rw [hf]
    rfl
end
end K05

set_option maxHeartbeats 4000000
/-! K05r: dicts of names; marked, same_terms -/
namespace K05
open PySem Fp L2
theorem dGet_cons {a : Key} {v : D} {kvs : List (Key × D)} {k : Key} : dGet ((a, v) :: kvs) k = if a = k then some v else dGet kvs k := by
  unfold dGet
  rw [List.find?_cons]
  by_cases h : a = k
  · rw [if_pos h, decide_eq_true h]
    rfl
  · rw [if_neg h, decide_eq_false h]
theorem dGet_nil {k : Key} : dGet [] k = none := rfl
theorem dGet_none : ∀ {kvs : List (Key × D)} {k : Key}, (kvs.any fun kv => decide (kv.1 = k)) = false → dGet kvs k = none
  | [], _, _ => rfl
  | (a, v) :: kvs, k, h => by
    rw [List.any_cons, Bool.or_eq_false_iff] at h
    rw [dGet_cons, if_neg (of_decide_eq_false h.1), dGet_none h.2]
theorem dGet_snoc : ∀ {kvs : List (Key × D)} {k k' : Key} {v : D}, dGet (kvs ++ [(k, v)]) k' = (dGet kvs k').or (if k = k' then some v else none)
  | [], k, k', v => by
    rw [List.nil_append, dGet_cons, dGet_nil]
    rfl
  | (a, u) :: kvs, k, k', v => by
    rw [List.cons_append, dGet_cons, dGet_cons, dGet_snoc]
    split <;> rfl
theorem dGet_repl : ∀ {kvs : List (Key × D)} {k k' : Key} {v : D}, dGet (kvs.map fun kv => if kv.1 = k then (kv.1, v) else kv) k' = if k' = k then (if (kvs.any fun kv => decide (kv.1 = k)) = true then some v else none) else dGet kvs k'
  | [], k, k', v => by
    rw [List.map_nil, dGet_nil]
    simp
  | (a, u) :: kvs, k, k', v => by
    rw [List.map_cons, List.any_cons, dGet_cons (a := a) (v := u)]
    have ih := dGet_repl (kvs := kvs) (k := k) (k' := k') (v := v)
    dsimp only
    by_cases ha : a = k
    · rw [if_pos ha, dGet_cons, ih, decide_eq_true ha, Bool.true_or]
      by_cases hk : k' = k
      · simp [hk, ha]
      · have h2 : ¬ a = k' := fun q => hk (q.symm.trans ha)
        simp [hk, h2]
    · rw [if_neg ha, dGet_cons, ih, decide_eq_false ha, Bool.false_or]
      by_cases hk : k' = k
      · have h2 : ¬ a = k' := fun q => ha (q.trans hk)
        simp [hk, ha]
      · simp [hk]
theorem dGet_put {kvs : List (Key × D)} {k k' : Key} {v : D} : dGet (dPut kvs k v) k' = if k' = k then some v else dGet kvs k' := by
  unfold dPut
  cases h : kvs.any fun kv => decide (kv.1 = k) with
  | true => rw [if_pos rfl, dGet_repl, h, if_pos rfl]
  | false =>
    rw [if_neg (by simp), dGet_snoc]
    by_cases hk : k' = k
    · subst hk
      rw [dGet_none h, if_pos rfl]
      simp
    · rw [if_neg fun q => hk q.symm, if_neg hk]
      simp
theorem put_len {kvs : List (Key × D)} {k : Key} {v : D} : (dPut kvs k v).length ≤ kvs.length + 1 := by
  unfold dPut
  split
  · rw [List.length_map]
    omega
  · rw [List.length_append]
    exact Nat.le_refl _
theorem put_refs {kvs : List (Key × D)} {k : Key} {v : D} {j : Nat} (h : refsBs j (kvs.map (·.2)) = true) (hv : refsB j v = true) : refsBs j ((dPut kvs k v).map (·.2)) = true := by
  have all : ∀ {ds : List D}, refsBs j ds = true → ∀ d ∈ ds, refsB j d = true := by
    intro ds
    induction ds with
    | nil => intro _ d hd; cases hd
    | cons e ds ih =>
      intro h d hd
      rw [refsBs, Bool.and_eq_true] at h
      rcases List.mem_cons.mp hd with q | q
      · rw [q]; exact h.1
      · exact ih h.2 d q
  unfold dPut
  split
  · refine refss_all fun d hd => ?_
    obtain ⟨kv, hkv, rfl⟩ := List.mem_map.mp hd
    obtain ⟨kv', hkv', rfl⟩ := List.mem_map.mp hkv
    split
    · exact hv
    · exact all h _ (List.mem_map.mpr ⟨kv', hkv', rfl⟩)
  · rw [List.map_append, refss_append, h]
    simp only [List.map_cons, List.map_nil, refsBs, hv, Bool.and_true]
theorem zip_fs : ∀ kvs : List (Key × D), (kvs.map (·.1)).zip (kvs.map (·.2)) = kvs
  | [] => rfl
  | (k, v) :: kvs => by rw [List.map_cons, List.map_cons, List.zip_cons_cons, zip_fs]
theorem keys_strs : ∀ xs : List Str, keysD (xs.map D.str) = some (xs.map Sum.inr)
  | [] => rfl
  | x :: xs => by
    rw [List.map_cons, keysD, keys_strs]
    rfl
/-- a dict of names tells what names stand for -/
def Dk (kvs : List (Key × D)) (E : Env) : Prop := ∀ x : Str, (∃ l : Nat, dGet kvs (.inr x) = some (.int (l : Int)) ∧ E x = fun _ => .lf (.bv l)) ∨ (dGet kvs (.inr x) = none ∧ E x = fun _ => .lf (.fv x))
theorem Dk.nil : Dk [] E0 := fun x => .inr ⟨rfl, rfl⟩
theorem Dk.put {kvs : List (Key × D)} {E : Env} (h : Dk kvs E) (b : Str) (d : Nat) : Dk (dPut kvs (.inr b) (.int (d : Int))) (fun x d' => if x = b then .lf (.bv (βm d d')) else E x d') := by
  intro x
  rw [dGet_put]
  by_cases e : x = b
  · refine .inl ⟨d, by rw [if_pos (by rw [e])], ?_⟩
    funext d'
    show (if x = b then _ else _) = _
    rw [if_pos e]
    rfl
  · rw [if_neg fun q => e (Sum.inr.inj q)]
    have e2 : (fun d' => if x = b then Tr.lf (.bv (βm d d')) else E x d') = E x := by
      funext d'
      rw [if_neg e]
    show (∃ l : Nat, _ ∧ (fun d' => if x = b then Tr.lf (.bv (βm d d')) else E x d') = _) ∨ _ ∧ (fun d' => if x = b then Tr.lf (.bv (βm d d')) else E x d') = _
    rw [e2]
    exact h x
/-- the dict of the names bs, by numbers from d on -/
def zd (bs : List Str) (d : Nat) : List (Key × D) := dMerge [] ((bs.map Sum.inr).zip (upto (d : Int) bs.length))
theorem upto1 (d : Nat) : upto (d : Int) 1 = [.int (d : Int)] := by
  unfold upto
  simp [List.range, List.range.loop]
theorem upto2 (d : Nat) : upto (d : Int) 2 = [.int (d : Int), .int ((d + 1 : Nat) : Int)] := by
  unfold upto
  simp [List.range, List.range.loop]
theorem merge_len : ∀ {ps kvs : List (Key × D)}, (dMerge kvs ps).length ≤ kvs.length + ps.length
  | [], kvs => Nat.le_refl _
  | p :: ps, kvs => by
    have h1 := merge_len (ps := ps) (kvs := dPut kvs p.1 p.2)
    have h2 := put_len (kvs := kvs) (k := p.1) (v := p.2)
    rw [List.length_cons]
    show (dMerge (dPut kvs p.1 p.2) ps).length ≤ _
    omega
theorem zd_len {bs : List Str} {d : Nat} (hb : bs.length ≤ 2) : (zd bs d).length ≤ 2 := by
  unfold zd
  have := merge_len (ps := (bs.map Sum.inr).zip (upto (d : Int) bs.length)) (kvs := [])
  rw [List.length_zip, List.length_map, List.length_nil] at this
  omega
theorem Dk.merge {kvs : List (Key × D)} {E : Env} {bs : List Str} {d : Nat} (hb : bs.length ≤ 2) (h : Dk kvs E) : Dk (dMerge kvs (zd bs d)) (bindE βm bs d E) := by
  unfold zd
  match bs, hb with
  | [], _ => exact h
  | [x], _ =>
    rw [List.length_singleton, upto1]
    exact h.put x d
  | [x, y], _ =>
    rw [show [x, y].length = 2 from rfl, upto2]
    have h2 := (h.put x d).put y (d + 1)
    show Dk (dMerge kvs (dPut [((Sum.inr x : Key), .int (d : Int))] (.inr y) (.int ((d + 1 : Nat) : Int)))) _
    by_cases e : x = y
    · subst e
      have e1 : dPut [((Sum.inr x : Key), D.int (d : Int))] (.inr x) (.int ((d + 1 : Nat) : Int)) = [((Sum.inr x : Key), .int ((d + 1 : Nat) : Int))] := by
        unfold dPut
        simp
      rw [e1]
      have h3 := h.put x (d + 1)
      intro z
      have q := h3 z
      have e3 : bindE βm [x, x] d E z = fun d' => if z = x then Tr.lf (.bv (βm (d + 1) d')) else E z d' := by
        funext d'
        show (if z = x then _ else if z = x then _ else _) = _
        split <;> rfl
      rw [e3]
      exact q
    · have e1 : dPut [((Sum.inr x : Key), D.int (d : Int))] (.inr y) (.int ((d + 1 : Nat) : Int)) = [((Sum.inr x : Key), .int (d : Int)), ((Sum.inr y : Key), .int ((d + 1 : Nat) : Int))] := by
        unfold dPut
        simp [e]
      rw [e1]
      exact h2
theorem zd_refs {kvs : List (Key × D)} {bs : List Str} {d j : Nat} (hb : bs.length ≤ 2) (h : refsBs j (kvs.map (·.2)) = true) : refsBs j ((dMerge kvs (zd bs d)).map (·.2)) = true := by
  have go : ∀ (ps kvs : List (Key × D)), refsBs j (kvs.map (·.2)) = true → (∀ p ∈ ps, refsB j p.2 = true) → refsBs j ((dMerge kvs ps).map (·.2)) = true := by
    intro ps
    induction ps with
    | nil => intro kvs h _; exact h
    | cons p ps ih =>
      intro kvs h hp
      exact ih _ (put_refs h (hp p List.mem_cons_self)) fun q hq => hp q (List.mem_cons_of_mem _ hq)
  refine go _ _ h ?_
  unfold zd
  match bs, hb with
  | [], _ => intro p hp; cases hp
  | [x], _ =>
    rw [List.length_singleton, upto1]
    intro p hp
    rw [List.mem_singleton.mp hp]
    rfl
  | [x, y], _ =>
    rw [show [x, y].length = 2 from rfl, upto2]
    intro p hp
    have h1 : refsBs j ((dPut (dPut [] (Sum.inr x : Key) (.int (d : Int))) (.inr y) (.int ((d + 1 : Nat) : Int))).map (·.2)) = true := put_refs (put_refs rfl rfl) rfl
    have all : ∀ {ds : List D}, refsBs j ds = true → ∀ d ∈ ds, refsB j d = true := by
      intro ds
      induction ds with
      | nil => intro _ d hd; cases hd
      | cons e ds ih =>
        intro h d hd
        rw [refsBs, Bool.and_eq_true] at h
        rcases List.mem_cons.mp hd with q | q
        · rw [q]; exact h.1
        · exact ih h.2 d q
    exact all h1 p.2 (List.mem_map.mpr ⟨p, hp, rfl⟩)
section
variable {L n : Nat} {m : Mem} {o : Str → List D → Mem → RD}
theorem dz_ok {bs : List Str} {d : Nat} (hb : bs.length ≤ 2) (hd : d ≤ 100000) : biDZ2 false [encs bs, .int (d : Int), .int ((d : Int) + (bs.length : Int))] m = .ok (.dct ((zd bs d).map (·.1)) ((zd bs d).map (·.2)), m) := by
  unfold biDZ2 biDZ encs
  dsimp only
  have h1 : (smallI (d : Int) && smallI ((d : Int) + (bs.length : Int))) = true := by
    unfold smallI
    simp only [Bool.and_eq_true]
    exact ⟨⟨decide_eq_true (by omega), decide_eq_true (by omega)⟩, decide_eq_true (by omega), decide_eq_true (by omega)⟩
  rw [if_pos h1, keys_strs]
  dsimp only
  rw [show ((d : Int) + (bs.length : Int) - (d : Int)).toNat = bs.length by omega]
  have hl := zd_len (d := d) hb
  unfold zd at hl ⊢
  unfold mkD
  rw [if_pos (by have : LIM = 16777216 := rfl; omega)]
  rfl
theorem dict_ref {k : Nat} {m : Mem} {kvs : List (Key × D)} (h : m[k]? = some (.dct kvs)) : dictD (.ref k) m = some kvs := by
  unfold dictD
  simp only [h]
theorem isDd_of {d : D} {m : Mem} {kvs : List (Key × D)} (h : dictD d m = some kvs) : isDd d m = true := by
  unfold isDd
  rw [h]
  rfl
theorem dict_dct {kvs : List (Key × D)} : dictD (.dct (kvs.map (·.1)) (kvs.map (·.2))) m = some kvs := by
  unfold dictD
  dsimp only
  rw [zip_fs]
theorem upd_ref {k : Nat} {m : Mem} {kvs more : List (Key × D)} (h : m[k]? = some (.dct kvs)) (hl : kvs.length + more.length ≤ 100000) :
    mUpdate (.ref k) [.dct (more.map (·.1)) (more.map (·.2))] m = .ok (.non, m.set k (.dct (dMerge kvs more))) := by
  unfold mUpdate
  dsimp only
  rw [h, dict_dct]
  dsimp only
  rw [if_pos ⟨rfl, by have : LIM = 16777216 := rfl; omega⟩]
theorem dict_true {d : D} {m : Mem} {kvs : List (Key × D)} (h : dictD d m = some kvs) (hl : kvs.length ≤ 100000) : biDict true d m = .ok (.ref m.length, m ++ [.dct kvs]) := by
  unfold biDict
  rw [h]
  dsimp only
  unfold mkD
  rw [if_pos (by have : LIM = 16777216 := rfl; omega), if_pos rfl]
theorem get2_of {d e : D} {m : Mem} {kvs : List (Key × D)} {x : Str} (h : dictD d m = some kvs) : mGet2 d [.str x, e] m = .ok ((dGet kvs (.inr x)).getD e, m) := by
  unfold mGet2
  rw [h]
  rfl
theorem mk_turn {te dn p : D} {o3 o8 : Option D} {d : Nat} {r : Tm × List Str} {kvs : List (Key × D)} {ps hs : List D} {mores : List Ob} (hb : r.2.length ≤ 2) (hd : d ≤ 2000) (hk : kvs.length ≤ 2000)
    (hdn : dictD dn (m ++ .lst ps :: .lst hs :: mores) = some kvs)
    (ho : o "marked" [enc r.1, .ref (m ++ .lst ps :: .lst hs :: mores).length, .int ((d : Int) + (r.2.length : Int))] (m ++ .lst ps :: .lst hs :: (mores ++ [.dct (dMerge kvs (zd r.2 d))])) = .ok (p, m ++ .lst ps :: .lst hs :: (mores ++ [.dct (dMerge kvs (zd r.2 d))])))
    (hl : ps.length ≤ 2000) (hl2 : hs.length ≤ 2000) :
    b_marked_1 ⟨o, L⟩ [some te, some dn, some (.int (d : Int)), o3, some (.ref m.length), some (.ref (m.length + 1)), some (enc r.1), some (encs r.2), o8] (m ++ .lst ps :: .lst hs :: mores) =
      .ok (.nx [some te, some dn, some (.int (d : Int)), o3, some (.ref m.length), some (.ref (m.length + 1)), some (enc r.1), some (encs r.2), some (.ref (m ++ .lst ps :: .lst hs :: mores).length)],
        m ++ .lst (ps ++ [p]) :: .lst (hs ++ [.int (r.2.length : Int)]) :: (mores ++ [.dct (dMerge kvs (zd r.2 d))])) := by
  have hLIM : LIM = 16777216 := rfl
  have h1 := dict_true hdn (by omega)
  have hz := dz_ok (m := (m ++ .lst ps :: .lst hs :: mores) ++ [.dct kvs]) (bs := r.2) (d := d) hb (by omega)
  have g1 : ((m ++ .lst ps :: .lst hs :: mores) ++ [Ob.dct kvs])[(m ++ .lst ps :: .lst hs :: mores).length]? = some (.dct kvs) := own_get0
  have i1 := isDd_of (dict_ref g1)
  have hzl := zd_len (d := d) hb
  have u1 := upd_ref (more := zd r.2 d) g1 (by omega)
  rw [own_set0, show ([Ob.dct kvs]).set 0 (.dct (dMerge kvs (zd r.2 d))) = [Ob.dct (dMerge kvs (zd r.2 d))] from rfl] at u1
  have em : (m ++ .lst ps :: .lst hs :: mores) ++ [Ob.dct (dMerge kvs (zd r.2 d))] = m ++ .lst ps :: .lst hs :: (mores ++ [.dct (dMerge kvs (zd r.2 d))]) := by simp
  rw [em] at u1
  generalize [Ob.dct (dMerge kvs (zd r.2 d))] = X at u1 ho ⊢
  generalize (m ++ .lst ps :: .lst hs :: mores).length = Q at h1 i1 u1 ho ⊢
  have g2 : (m ++ Ob.lst ps :: .lst hs :: (mores ++ X))[m.length]? = some (.lst ps) := own_get0
  have i2 := isL_ref g2
  have p2 := app_ref (e := p) g2 (by omega)
  rw [own_set0, show (Ob.lst ps :: .lst hs :: (mores ++ X)).set 0 (.lst (ps ++ [p])) = .lst (ps ++ [p]) :: .lst hs :: (mores ++ X) from rfl] at p2
  have g3 : (m ++ Ob.lst (ps ++ [p]) :: .lst hs :: (mores ++ X))[m.length + 1]? = some (.lst hs) := own_get
  have i3 := isL_ref g3
  have p3 := app_ref (e := .int (r.2.length : Int)) g3 (by omega)
  rw [own_set, show (Ob.lst (ps ++ [p]) :: .lst hs :: (mores ++ X)).set 1 (.lst (hs ++ [.int (r.2.length : Int)])) = .lst (ps ++ [p]) :: .lst (hs ++ [.int (r.2.length : Int)]) :: (mores ++ X) from rfl] at p3
  have hlen : ∀ m, biLen (encs r.2) m = .ok (.int (r.2.length : Int), m) := fun m => by
    show R.ok (D.int ((r.2.map D.str).length : Int), m) = _
    rw [List.length_map]
  unfold b_marked_1
  simp only [ev, evd, evb, h1, i1, if_true, hlen, hz, u1, i2, ho, p2, i3, p3]
theorem word_no {w : Str} {a b c : Tm} {bs : List Str} (h : WF (.nd w a b bs c)) : (("num" : Str) == w) = false ∧ (("op" : Str) == w) = false := by
  cases h with
  | un hw =>
    rcases hw with rfl | rfl | rfl <;> simp only [wds, and_self]
  | _ => simp only [wds, and_self]
theorem marked_ok : ∀ (h : Nat) {t : Tm}, WF t → ht t ≤ h → ∀ {n : Nat} {M : Mem} {dn : D} {kvs : List (Key × D)} {E : Env} {d : Nat}, h + 4 ≤ n → Cl M → (∀ l, dictD dn (M ++ l) = some kvs) → Dk kvs E → refsBs 0 (kvs.map (·.2)) = true → kvs.length + 2 * h ≤ 1000 → d + 2 * h ≤ 1000 →
    callN T.tab L n "marked" [enc t, dn, .int (d : Int)] M = .ok (encT (den βm t E d), M) := by
  intro h
  induction h using Nat.strongRecOn with
  | ind h ih =>
    intro t hw hh n m dn kvs E d hn hm hdn hE hkr hkl hdl
    obtain ⟨n, rfl⟩ : ∃ k, n = k + 1 := ⟨n - 1, by omega⟩
    rw [callN_at tab_marked rfl]
    have hdn0 := hdn []
    rw [List.append_nil] at hdn0
    cases t with
    | nil => cases hw
    | var x =>
      refine fin_same ?_ hm (refs_encT _)
      have i0 := isDd_of hdn0
      have g0 := get2_of (e := .str x) (x := x) hdn0
      have e0 : D.tup [.str "var", (dGet kvs (.inr x)).getD (.str x)] = encT (den βm (.var x) E d) := by
        rw [den]
        rcases hE x with ⟨l, h1, h2⟩ | ⟨h1, h2⟩
        · rw [h1, h2]
          rfl
        · rw [h1, h2]
          rfl
      rw [← e0]
      unfold m_marked
      simp only [ev, evd, evb, List.map_cons, List.map_nil, List.length_cons, List.length_nil, List.replicate, List.cons_append, List.nil_append, enc_shapes, wds, i0, if_true, g0]
    | nd w a b bs c =>
      obtain ⟨hw1, hw2, hw3⟩ := word_nd (m := m) hw
      obtain ⟨hn1, hn2⟩ := word_no hw
      have hm1 : Cl (m ++ [.lst []]) := hm.app rfl
      have hm2 : Cl (m ++ [.lst [], .lst []]) := by
        have := hm1.app (o := .lst []) rfl
        rwa [List.append_assoc] at this
      have hp := parts_ok (L := L) (n := n - 1) hw hm2
      have hb := binds_ok (L := L) (n := n - 2) hw hm2
      rw [show n - 1 + 1 = n by omega] at hp
      rw [show n - 2 + 2 = n by omega] at hb
      have hrw := rows_wf2 hw
      have hr3 := rows_cnt hw
      have hT := encT_den (β := βm) hw (E := E) (d := d)
      have hr2 : ∀ r ∈ rows (.nd w a b bs c), r.2.length ≤ 2 := by
        intro r hr
        have h1 := wf_bs hw
        have h2 := rows_bs hw
        have h3 := congrArg List.length h2
        rw [List.length_flatten, List.map_map] at h3
        have := le_sum (List.mem_map.mpr ⟨r, hr, rfl⟩ : (List.length ∘ fun r : Tm × List Str => r.2) r ∈ (rows (.nd w a b bs c)).map (List.length ∘ fun r => r.2))
        simp only [Function.comp] at this h3
        omega
      generalize hrt : rows (.nd w a b bs c) = rs at hrw hr3 hT hr2
      have hzp : zipD ((rows (.nd w a b bs c)).map fun r => enc r.1) ((rows (.nd w a b bs c)).map fun r => encs r.2) = rs.map fun r => .tup [enc r.1, encs r.2] := by
        rw [zip_rows, hrt]
      have hw1' : ∀ m, opIx (enc (.nd w a b bs c)) (.int 0) m = .ok (.str w, m) := fun m => (word_nd hw).1
      generalize enc (.nd w a b bs c) = te at hp hb hw1 hw1'
      generalize hPS : (rs.map fun r => encT (den βm r.1 (bindE βm r.2 d E) (d + r.2.length))) = PS at hT
      generalize hHS : (rs.map fun r => D.int (r.2.length : Int)) = HS at hT
      have loop := forL_rest (t := .tp [6, 7]) (b := b_marked_1) (c := ⟨callN T.tab L n, L⟩) (all := rs.map fun r => .tup [enc r.1, encs r.2]) (g := fun r : Tm × List Str => .tup [enc r.1, encs r.2])
        (E := fun rest ρ m' => ∃ o6 o7 o8 ps hs mores, ρ = [some te, some dn, some (.int (d : Int)), none, some (.ref m.length), some (.ref (m.length + 1)), o6, o7, o8] ∧ m' = m ++ .lst ps :: .lst hs :: mores ∧
          ps ++ (rest.map fun r => encT (den βm r.1 (bindE βm r.2 d E) (d + r.2.length))) = PS ∧ hs ++ (rest.map fun r => D.int (r.2.length : Int)) = HS ∧ (∀ r ∈ rest, r ∈ rs) ∧ Cl m' ∧ (∀ k, refsBs k ps = true) ∧ ∀ k, refsBs k hs = true)
        (fun r rest ρ m' hE' => by
          obtain ⟨o6, o7, o8, ps, hs, mores, rfl, rfl, e1, e2, hr, hc, hk1, hk2⟩ := hE'
          have hx := hr r List.mem_cons_self
          have hbl := hr2 r hx
          rw [List.map_cons] at e1 e2
          have hL1 : ps.length ≤ 1000 := by
            have := congrArg List.length e1
            rw [← hPS, List.length_append, List.length_map] at this
            omega
          have hL2 : hs.length ≤ 1000 := by
            have := congrArg List.length e2
            rw [← hHS, List.length_append, List.length_map] at this
            omega
          have hzl := zd_len (d := d) hbl
          have hml := merge_len (ps := zd r.2 d) (kvs := kvs)
          have hrf : ∀ j, refsBs j ((dMerge kvs (zd r.2 d)).map (·.2)) = true := fun j => refss_mono (Nat.zero_le _) (zd_refs hbl hkr)
          have em : (m ++ .lst ps :: .lst hs :: mores) ++ [Ob.dct (dMerge kvs (zd r.2 d))] = m ++ .lst ps :: .lst hs :: (mores ++ [.dct (dMerge kvs (zd r.2 d))]) := by simp
          have hc1 := hc.app (o := .dct (dMerge kvs (zd r.2 d))) (hrf _)
          have hlt := (hrw r hx).2
          have ho := ih (ht r.1) (by omega) (hrw r hx).1 (Nat.le_refl _) (n := n) (M := (m ++ .lst ps :: .lst hs :: mores) ++ [Ob.dct (dMerge kvs (zd r.2 d))]) (dn := .ref (m ++ .lst ps :: .lst hs :: mores).length) (kvs := dMerge kvs (zd r.2 d)) (E := bindE βm r.2 d E) (d := d + r.2.length) (by omega) hc1
            (fun l => dict_ref (by rw [List.append_assoc]; exact own_get0)) (hE.merge hbl) (hrf 0) (by omega) (by omega)
          rw [em, show ((d + r.2.length : Nat) : Int) = (d : Int) + (r.2.length : Int) by omega] at ho
          rw [em] at hc1
          refine ⟨_, _, _, rfl, .inl (mk_turn hbl (by omega) (by omega) (hdn _) ho (by omega) (by omega)), some _, some _, some _, _, _, _, rfl, rfl, ?_, ?_, fun r hr' => hr r (List.mem_cons_of_mem _ hr'), ?_, ?_, ?_⟩
          · rw [List.append_assoc]
            exact e1
          · rw [List.append_assoc]
            exact e2
          · have q1 := hc1.set (n := m.length) (o := .lst (ps ++ [encT (den βm r.1 (bindE βm r.2 d E) (d + r.2.length))])) (by
              show refsBs _ _ = true
              rw [refss_append, hk1, refsBs, refs_encT]
              rfl)
            rw [own_set0] at q1
            have q2 := q1.set (n := m.length + 1) (o := .lst (hs ++ [.int (r.2.length : Int)])) (by
              show refsBs _ _ = true
              rw [refss_append, hk2]
              rfl)
            rw [own_set] at q2
            exact q2
          · intro k
            rw [refss_append, hk1, refsBs, refs_encT]
            rfl
          · intro k
            rw [refss_append, hk2]
            rfl)
        (xs := rs) (ρ := [some te, some dn, some (.int (d : Int)), none, some (.ref m.length), some (.ref (m.length + 1)), none, none, none]) (m := m ++ [.lst [], .lst []])
        ⟨none, none, none, [], [], [], rfl, rfl, hPS, hHS, fun r h => h, hm2, fun _ => rfl, fun _ => rfl⟩
      obtain ⟨ρ', m', h1, o6, o7, o8, ps, hs, mores, rfl, rfl, e1, e2, _, _, _, _⟩ := loop
      rw [List.map_nil, List.append_nil] at e1 e2
      subst e1
      subst e2
      have g1 := tuple_of (items_ref (own_get0 (m := m) (l := .lst ps :: .lst hs :: mores)))
      have g2 := tuple_of (items_ref (own_get (m := m) (l := .lst ps :: .lst hs :: mores) (i := 1)))
      have hw1'' := hw1' (m ++ .lst ps :: .lst hs :: mores)
      refine fin_data (l := .lst ps :: .lst hs :: mores) ?_ hm (refs_encT _)
      have ha : m ++ [Ob.lst []] ++ [Ob.lst []] = m ++ [Ob.lst [], .lst []] := by simp
      have hlen : (m ++ [Ob.lst []]).length = m.length + 1 := by simp
      rw [hT]
      unfold m_marked
      simp only [ev, evd, evb, List.map_cons, List.map_nil, List.length_cons, List.length_nil, List.replicate, List.cons_append, List.nil_append, hw1', hw2, hw3, wds, ha, hlen, hp, hb, partsD, bindsD, hzp, h1, hn1, hn2, g1, g2]
      rfl
/-- how deep a tree's datum is -/
theorem encT_pl {β : Nat → Nat → Nat} : ∀ (h : Nat) {t : Tm}, WF t → Sok t → ht t ≤ h → ∀ {E : Env} {d : Nat}, (∀ x, PyData.strOk x = true → ∀ d, plD 1 (encT (E x d)) = true) → plD (2 * h + 1) (encT (den β t E d)) = true := by
  intro h
  induction h using Nat.strongRecOn with
  | ind h ih =>
    intro t hw hs hh E d hE
    cases t with
    | nil => cases hw
    | var x => exact pl_mono (by omega) (hE x (sok_var.mp hs) d)
    | nd w a b bs c =>
      have hrw := rows_wf2 hw
      have hrk := rows_sok hw hs
      obtain ⟨_, _, hw3⟩ := word_nd (m := []) hw
      have hbk := (sok_nd.mp hs).1
      have hrb := rows_bs hw
      have h1 : 1 ≤ h := by
        rw [ht] at hh
        omega
      obtain ⟨g, rfl⟩ : ∃ g, h = g + 1 := ⟨h - 1, by omega⟩
      rw [encT_den hw, show 2 * (g + 1) + 1 = (2 * g + 1) + 1 + 1 by omega]
      simp only [plD, plDs, hw3, Bool.and_true, Bool.true_and, Bool.and_eq_true]
      refine ⟨by decide +kernel, pls_all fun e he => ?_, pls_all fun e he => ?_⟩
      · obtain ⟨r, _, rfl⟩ := List.mem_map.mp he
        rfl
      · obtain ⟨r, hr, rfl⟩ := List.mem_map.mp he
        refine ih g (by omega) (hrw r hr).1 (hrk r hr) (by have := (hrw r hr).2; omega) ?_
        have hb2 : ∀ (bs : List Str) (l : Nat) (E : Env), (∀ x, PyData.strOk x = true → ∀ d, plD 1 (encT (E x d)) = true) → ∀ x, PyData.strOk x = true → ∀ d, plD 1 (encT (bindE β bs l E x d)) = true := by
          intro bs
          induction bs with
          | nil => intro l E h; exact h
          | cons b bs ihb =>
            intro l E h x hx d
            unfold bindE
            refine ihb _ _ (fun x hx d => ?_) x hx d
            split
            · simp only [encT, plD, plDs, wds, Bool.and_true]
            · exact h x hx d
        exact hb2 _ _ _ hE
theorem pl_E0 (x : Str) (hx : PyData.strOk x = true) (d : Nat) : plD 1 (encT (E0 x d)) = true := by
  simp only [E0, encT, plD, plDs, hx, wds, Bool.and_true]
def alk (t u : Tm) : Bool := eqDb (encT (bare t)) (encT (bare u))
theorem alk_iff {t u : Tm} (h : WF t) (h' : WF u) : alk t u = true ↔ bare t = bare u := by
  unfold alk
  rw [eqDb_iff]
  exact ⟨fun q => encT_inj (den_wft h wft_E0) (den_wft h' wft_E0) q, fun q => by rw [q]⟩
theorem alk_mark {t u : Tm} (h : WF t) (h' : WF u) : eqDb (encT (mark t)) (encT (mark u)) = alk t u := by
  have e : eqDb (encT (mark t)) (encT (mark u)) = true ↔ alk t u = true := by
    rw [alk_iff h h', eqDb_iff, ← mark_iff]
    exact ⟨fun q => encT_inj (den_wft h wft_E0) (den_wft h' wft_E0) q, fun q => by rw [q]⟩
  cases q : alk t u with
  | true => exact e.mpr q
  | false =>
    cases q' : eqDb (encT (mark t)) (encT (mark u)) with
    | true => rw [e.mp q'] at q; cases q
    | false => rfl
theorem same_ok {t u : Tm} (h : WF t) (h' : WF u) (hs : Sok t) (hs' : Sok u) (hh : ht t ≤ 20) (hh' : ht u ≤ 20) {n : Nat} (hn : 25 ≤ n) (hm : Cl m) : callN T.tab L n "same_terms" [enc t, enc u] m = .ok (.bl (alk t u), m) := by
  obtain ⟨n, rfl⟩ : ∃ k, n = k + 1 := ⟨n - 1, by omega⟩
  rw [callN_at tab_same_terms rfl]
  have h1 := marked_ok (L := L) 20 h hh (n := n) (M := m) (dn := .dct [] []) (kvs := []) (E := E0) (d := 0) (by omega) hm (fun _ => rfl) Dk.nil rfl (by simp) (by simp)
  have h2 := marked_ok (L := L) 20 h' hh' (n := n) (M := m) (dn := .dct [] []) (kvs := []) (E := E0) (d := 0) (by omega) hm (fun _ => rfl) Dk.nil rfl (by simp) (by simp)
  have p1 := encT_pl (β := βm) 20 h hs hh (E := E0) (d := 0) pl_E0
  have p2 := encT_pl (β := βm) 20 h' hs' hh' (E := E0) (d := 0) pl_E0
  have he : cpEq (encT (mark t)) (encT (mark u)) m = some (eqDb (encT (mark t)) (encT (mark u))) := cpEq_pl (pl_mono (by omega) p1) (pl_mono (by omega) p2)
  rw [alk_mark h h'] at he
  unfold mark at he
  have hmk : mkD false [] m = .ok (.dct [] [], m) := rfl
  rw [show ((0 : Nat) : Int) = 0 from rfl] at h1 h2
  refine fin_same ?_ hm rfl
  unfold m_same_terms
  simp only [ev, evd, ev2, evb, List.map_cons, List.map_nil, List.length_cons, List.length_nil, List.replicate, List.cons_append, List.nil_append, hmk, h1, h2, he]
end
end K05

set_option maxHeartbeats 4000000
/-! K05s: next_name, ordered, tidy -/
namespace K05
open PySem Fp L2
abbrev Cn (k : Nat) : Ob := .lst [.int (k : Int)]
/-- the memory m with the count k at i, and the def's own objects -/
abbrev Wm (m : Mem) (i k : Nat) (l : List Ob) : Mem := m.set i (Cn k) ++ l
section
variable {L n i k : Nat} {m : Mem} {o : Str → List D → Mem → RD}
theorem set_same {m : Mem} {i : Nat} {o : Ob} (h : m[i]? = some o) : m.set i o = m := by
  refine List.ext_getElem? fun j => ?_
  by_cases e : i = j
  · subst e
    rw [List.getElem?_set_self (List.getElem?_eq_some_iff.mp h).1, h]
  · rw [List.getElem?_set_ne e]
theorem W_len {l : List Ob} : (Wm m i k l).length = m.length + l.length := by
  rw [List.length_append, List.length_set]
theorem W_get {l : List Ob} {j : Nat} : (Wm m i k l)[m.length + j]? = l[j]? := by
  have := own_get (m := m.set i (Cn k)) (l := l) (i := j)
  rwa [List.length_set] at this
theorem W_get0 {l : List Ob} : (Wm m i k l)[m.length]? = l[0]? := W_get (j := 0)
theorem W_set {l : List Ob} {j : Nat} {o : Ob} : (Wm m i k l).set (m.length + j) o = Wm m i k (l.set j o) := by
  have := own_set (m := m.set i (Cn k)) (l := l) (i := j) (o := o)
  rwa [List.length_set] at this
theorem W_set0 {l : List Ob} {o : Ob} : (Wm m i k l).set m.length o = Wm m i k (l.set 0 o) := W_set (j := 0)
theorem W_geti {l : List Ob} (h : i < m.length) : (Wm m i k l)[i]? = some (Cn k) := by
  rw [List.getElem?_append_left (by rw [List.length_set]; exact h), List.getElem?_set_self h]
theorem W_seti {l : List Ob} {k' : Nat} (h : i < m.length) : (Wm m i k l).set i (Cn k') = Wm m i k' l := by
  rw [List.set_append_left _ _ (by rw [List.length_set]; exact h), List.set_set]
theorem put_list {m : Mem} {v w : D} (h : m[i]? = some (.lst [v])) : putIx (.ref i) (.int 0) w m = .ok (m.set i (.lst [w])) := by
  unfold putIx
  dsimp only
  rw [h]
  rfl
theorem get_list {m : Mem} {v : D} (h : m[i]? = some (.lst [v])) : opGet (.ref i) (.int 0) m = .ok (v, m) := by
  unfold opGet
  rw [list_ref h]
  rfl
theorem put_dict {m : Mem} {kvs : List (Key × D)} {x : Str} {v : D} (h : m[i]? = some (.dct kvs)) (hl : kvs.length ≤ 100000) : putIx (.ref i) (.str x) v m = .ok (m.set i (.dct (dPut kvs (.inr x) v))) := by
  unfold putIx
  dsimp only
  rw [h]
  dsimp only [keyD]
  rw [if_pos (by have : LIM = 16777216 := rfl; omega)]
theorem ix_dict {m : Mem} {kvs : List (Key × D)} {x : Str} {v : D} (h : m[i]? = some (.dct kvs)) (hv : dGet kvs (.inr x) = some v) : opIx (.ref i) (.str x) m = .ok (v, m) := by
  have h1 : itemsD (.ref i) m = none := by
    unfold itemsD
    simp only [h]
  unfold opIx
  dsimp only
  rw [h1]
  dsimp only
  rw [dict_ref h]
  dsimp only [keyD]
  rw [hv]
theorem aug_turn {c : Cxt} {d1 : Option D} (h : m[i]? = some (Cn k)) : ssAugIx (sVar 0) (sK (.int 0)) opIAdd (sK (.int 1)) c [some (.ref i), d1] m = .ok (.nx [some (.ref i), d1], m.set i (Cn (k + 1))) := by
  have h1 := get_list h
  have h2 := put_list (w := .int ((k : Int) + 1)) h
  rw [show ((k : Int) + 1) = ((k + 1 : Nat) : Int) by omega] at h2
  simp only [ev, evd, evb, h1]
  rw [show ((k : Int) + 1) = ((k + 1 : Nat) : Int) by omega]
  simp only [ev, evb, h2]
theorem next_loop {tk : List Str} (hi : i < m.length) (ho : ∀ (k : Nat) (M : Mem), k < 20000 → Cl M → o "word_of" [.int (k : Int)] M = .ok (.str (wd k), M)) : ∀ (N k f : Nat) (m : Mem), Cl m → N < f → k + N < 20000 → m[i]? = some (Cn k) → nmP wS (fst wS tk N k) ∉ tk →
    whileL (stCmp cpIn (sOp opAdd (sK (.str ("w" : Str))) (sCall ("word_of" : Str) (sCons (sOp opIx (sVar 0) (sK (.int 0))) sNil))) (sVar 1)) b_next_name_1 ⟨o, L⟩ f [some (.ref i), some (encs tk)] m = .ok (.nx [some (.ref i), some (encs tk)], m.set i (Cn (fst wS tk N k))) := by
  intro N
  induction N with
  | zero =>
    intro k f m hm hf hk hg hn
    obtain ⟨f, rfl⟩ : ∃ g, f = g + 1 := ⟨f - 1, by omega⟩
    have hn : nmP wS k ∉ tk := hn
    have h1 := ho k m (by omega) hm
    have h2 := nm_ok (m := m) (p := wS) (k := k) (by decide) (by have : LIM = 16777216 := rfl; omega)
    have h3 : cpIn (.str (nmP wS k)) (encs tk) m = some false := by
      unfold encs
      rw [cpIn_strs, decide_eq_false hn]
    have h4 := ix0_of (items_ref hg)
    rw [show fst wS tk 0 k = k from rfl, set_same hg]
    unfold whileL
    simp only [ev, evd, evb, h4, h1, wS_eq, h2, h3]
    rfl
  | succ N ih =>
    intro k f m hm hf hk hg hn
    obtain ⟨f, rfl⟩ : ∃ g, f = g + 1 := ⟨f - 1, by omega⟩
    have h1 := ho k m (by omega) hm
    have h2 := nm_ok (m := m) (p := wS) (k := k) (by decide) (by have : LIM = 16777216 := rfl; omega)
    have h4 := ix0_of (items_ref hg)
    have hil : i < m.length := (List.getElem?_eq_some_iff.mp hg).1
    unfold fst at hn ⊢
    by_cases q : nmP wS k ∈ tk
    · rw [if_pos q] at hn ⊢
      have h3 : cpIn (.str (nmP wS k)) (encs tk) m = some true := by
        unfold encs
        rw [cpIn_strs, decide_eq_true q]
      have h5 := ih (k + 1) f (m.set i (Cn (k + 1))) (hm.set rfl) (by omega) (by omega) (List.getElem?_set_self hil) hn
      rw [List.set_set] at h5
      have hb : b_next_name_1 ⟨o, L⟩ [some (.ref i), some (encs tk)] m = .ok (.nx [some (.ref i), some (encs tk)], m.set i (Cn (k + 1))) := by
        unfold b_next_name_1
        have := aug_turn (c := ⟨o, L⟩) (d1 := some (encs tk)) hg
        generalize ssAugIx (sVar 0) (sK (.int 0)) opIAdd (sK (.int 1)) = A at this ⊢
        simp only [ev, evb, this]
      unfold whileL
      rw [wS_eq] at h5 ⊢
      simp only [ev, evd, evb, h4, h1, h2, h3, if_true, hb, h5]
    · rw [if_neg q] at hn ⊢
      have h3 : cpIn (.str (nmP wS k)) (encs tk) m = some false := by
        unfold encs
        rw [cpIn_strs, decide_eq_false hn]
      rw [set_same hg]
      unfold whileL
      simp only [ev, evd, evb, h4, h1, wS_eq, h2, h3]
      rfl
theorem next_ok {tk : List Str} (hL : 20000 ≤ L) (hk : k + tk.length < 10000) (hm : Cl m) (hg : m[i]? = some (Cn k)) : callN T.tab L (n + 2) "next_name" [.ref i, encs tk] m = .ok (.str (nextW tk k).1, m.set i (Cn (nextW tk k).2)) := by
  rw [callN_at tab_next_name rfl]
  have hil : i < m.length := (List.getElem?_eq_some_iff.mp hg).1
  have ho : ∀ (k : Nat) (M : Mem), k < 20000 → Cl M → callN T.tab L (n + 1) "word_of" [.int (k : Int)] M = .ok (.str (wd k), M) := fun k M hk hM => word_ok (by omega) (by have : LIM = 16777216 := rfl; omega) hM
  have h := next_loop (L := L) (o := callN T.tab L (n + 1)) hil ho tk.length k L m hm (by omega) (by omega) hg (fst_out wS tk k)
  have hb := (fst_le (p := wS) (tk := tk) (n := tk.length) (k := k)).2
  unfold nextW
  dsimp only
  generalize fst wS tk tk.length k = j at h hb ⊢
  have g2 : (m.set i (Cn j))[i]? = some (Cn j) := List.getElem?_set_self hil
  have h2 := aug_turn (c := ⟨callN T.tab L (n + 1), L⟩) (d1 := some (encs tk)) g2
  rw [List.set_set] at h2
  have g3 : (m.set i (Cn (j + 1)))[i]? = some (Cn (j + 1)) := List.getElem?_set_self hil
  have h3 := ix0_of (items_ref g3)
  have hc : Cl (m.set i (Cn (j + 1))) := hm.set rfl
  have h4 := ho j _ (by omega) hc
  have h5 := nm_ok (m := m.set i (Cn (j + 1))) (p := wS) (k := j) (by decide) (by have : LIM = 16777216 := rfl; omega)
  refine fin_ret (m1 := m.set i (Cn (j + 1))) (l := []) (d := .str (nmP wS j)) ?_ (List.length_set ..) hc rfl
  rw [List.append_nil]
  rw [wS_eq] at h
  show m_next_name _ [some (.ref i), some (encs tk)] m = _
  unfold m_next_name
  generalize ssAugIx (sVar 0) (sK (.int 0)) opIAdd (sK (.int 1)) = A at h2 ⊢
  simp only [ev, evd, evb, ev2, List.map_cons, List.map_nil, List.length_cons, List.length_nil, List.replicate, List.cons_append, List.nil_append, wS_eq, h, h2, h3]
  rw [show (((j + 1 : Nat) : Int) - 1) = (j : Int) by omega]
  simp only [evb, h4, h5, ev]
/-- a dict of new names -/
def Sk (kvs : List (Key × D)) (σ : Str → Option Str) : Prop := ∀ x : Str, dGet kvs (.inr x) = (σ x).map D.str
theorem Sk.put {kvs : List (Key × D)} {σ : Str → Option Str} (h : Sk kvs σ) (b y : Str) : Sk (dPut kvs (.inr b) (.str y)) (fun x => if x = b then some y else σ x) := by
  intro x
  rw [dGet_put]
  by_cases e : x = b
  · rw [if_pos (by rw [e])]
    show _ = Option.map _ (if x = b then _ else _)
    rw [if_pos e]
    rfl
  · rw [if_neg fun q => e (Sum.inr.inj q), h x]
    show _ = Option.map _ (if x = b then _ else _)
    rw [if_neg e]
theorem on_turn {te dn pd od : D} {o4 : Option D} {tk : List Str} {x y : Str} {k2 : Nat} {ps : List D} {bd : List Str} {kvs : List (Key × D)} {mores : List Ob} (hi : i < m.length)
    (ho : o "next_name" [.ref i, encs tk] (Wm m i k (.lst ps :: .lst (bd.map D.str) :: (mores ++ [.dct kvs]))) = .ok (.str y, (Wm m i k (.lst ps :: .lst (bd.map D.str) :: (mores ++ [.dct kvs]))).set i (Cn k2)))
    (hk : kvs.length ≤ 100000) (hbd : bd.length ≤ 100000) :
    b_ordered_1 ⟨o, L⟩ [some te, some dn, some (.ref i), some (encs tk), o4, some (.ref m.length), some (.ref (m.length + 1)), some pd, some od, some (.ref (m.length + (mores.length + 2))), some (.str x)] (Wm m i k (.lst ps :: .lst (bd.map D.str) :: (mores ++ [.dct kvs]))) =
      .ok (.nx [some te, some dn, some (.ref i), some (encs tk), o4, some (.ref m.length), some (.ref (m.length + 1)), some pd, some od, some (.ref (m.length + (mores.length + 2))), some (.str x)],
        Wm m i k2 (.lst ps :: .lst ((bd ++ [y]).map D.str) :: (mores ++ [.dct (dPut kvs (.inr x) (.str y))]))) := by
  have hLIM : LIM = 16777216 := rfl
  rw [W_seti hi] at ho
  have ix : ∀ (a b : Ob) (X : Ob), (a :: b :: (mores ++ [X]))[mores.length + 2]? = some X := fun a b X => by
    show (mores ++ [X])[mores.length]? = some X
    rw [List.getElem?_append_right (Nat.le_refl _), Nat.sub_self]
    rfl
  have st : ∀ (a b : Ob) (X Y : Ob), (a :: b :: (mores ++ [X])).set (mores.length + 2) Y = a :: b :: (mores ++ [Y]) := fun a b X Y => by
    show a :: b :: (mores ++ [X]).set mores.length Y = _
    rw [List.set_append_right _ _ (Nat.le_refl _), Nat.sub_self]
    rfl
  have g1 : (Wm m i k2 (.lst ps :: .lst (bd.map D.str) :: (mores ++ [.dct kvs])))[m.length + (mores.length + 2)]? = some (.dct kvs) := by rw [W_get, ix]
  have p1 := put_dict (x := x) (v := .str y) g1 hk
  rw [W_set, st] at p1
  have g2 : (Wm m i k2 (.lst ps :: .lst (bd.map D.str) :: (mores ++ [.dct (dPut kvs (.inr x) (.str y))])))[m.length + (mores.length + 2)]? = some (.dct (dPut kvs (.inr x) (.str y))) := by rw [W_get, ix]
  have q2 := ix_dict g2 (x := x) (v := .str y) (by rw [dGet_put, if_pos rfl])
  have g3 : (Wm m i k2 (.lst ps :: .lst (bd.map D.str) :: (mores ++ [.dct (dPut kvs (.inr x) (.str y))])))[m.length + 1]? = some (.lst (bd.map D.str)) := by rw [W_get]; rfl
  have i3 := isL_ref g3
  have p3 := app_ref (e := .str y) g3 (by rw [List.length_map]; omega)
  rw [W_set, show (Ob.lst ps :: .lst (bd.map D.str) :: (mores ++ [.dct (dPut kvs (.inr x) (.str y))])).set 1 (.lst (bd.map D.str ++ [.str y])) = .lst ps :: .lst ((bd ++ [y]).map D.str) :: (mores ++ [.dct (dPut kvs (.inr x) (.str y))]) by rw [List.map_append]; rfl] at p3
  unfold b_ordered_1
  simp only [ev, evd, evb, ho, p1, q2, i3, if_true, p3]
end
end K05

set_option maxHeartbeats 4000000
/-! K05t: ordered, tidy -/
namespace K05
open PySem Fp L2
section
variable {tk : List Str}
theorem nextW_le (k : Nat) : k ≤ (nextW tk k).2 ∧ (nextW tk k).2 ≤ k + (tk.length + 1) := by
  have := fst_le (p := wS) (tk := tk) (n := tk.length) (k := k)
  unfold nextW
  dsimp only
  omega
theorem names_le : ∀ {j k : Nat}, (names (nextW tk) j k).2 ≤ k + j * (tk.length + 1)
  | 0, k => by simp [names]
  | j + 1, k => by
    have h1 := nextW_le (tk := tk) k
    have h2 := names_le (j := j) (k := (nextW tk k).2)
    have e : (j + 1) * (tk.length + 1) = j * (tk.length + 1) + (tk.length + 1) := by rw [Nat.add_mul, Nat.one_mul]
    unfold names
    dsimp only
    omega
theorem ord_le : ∀ {t : Tm} {σ : Str → Option Str} {k : Nat}, (ord (nextW tk) t σ k).2 ≤ k + (bnd t).length * (tk.length + 1)
  | .nil, _, _ => Nat.le_add_right _ _
  | .var _, _, _ => Nat.le_add_right _ _
  | .nd w a b bs c, σ, k => by
    have h1 := ord_le (t := a) (σ := σ) (k := k)
    have h2 := ord_le (t := b) (σ := σ) (k := (ord (nextW tk) a σ k).2)
    have h3 := names_le (tk := tk) (j := bs.length) (k := (ord (nextW tk) b σ (ord (nextW tk) a σ k).2).2)
    have h4 := ord_le (t := c) (σ := upds σ bs (names (nextW tk) bs.length (ord (nextW tk) b σ (ord (nextW tk) a σ k).2).2).1) (k := (names (nextW tk) bs.length (ord (nextW tk) b σ (ord (nextW tk) a σ k).2).2).2)
    have e : (bnd (.nd w a b bs c)).length * (tk.length + 1) = (bnd a).length * (tk.length + 1) + (bnd b).length * (tk.length + 1) + bs.length * (tk.length + 1) + (bnd c).length * (tk.length + 1) := by
      rw [bnd, List.length_append, List.length_append, List.length_append, Nat.add_mul, Nat.add_mul, Nat.add_mul]
      omega
    rw [ord, e]
    dsimp only
    omega
theorem names_sok : ∀ {j k : Nat}, ∀ x ∈ (names (nextW tk) j k).1, PyData.strOk x = true
  | 0, k, x, h => by cases h
  | j + 1, k, x, h => by
    unfold names at h
    rcases List.mem_cons.mp h with rfl | q
    · exact ok_nmW _
    · exact names_sok x q
/-- the rows one after the other -/
def ordR (nx : Nat → Str × Nat) (σ : Str → Option Str) : List (Tm × List Str) → Nat → List Tm × List Str × Nat
  | [], k => ([], [], k)
  | r :: rs, k =>
    ((ord nx r.1 (upds σ r.2 (names nx r.2.length k).1) (names nx r.2.length k).2).1 :: (ordR nx σ rs (ord nx r.1 (upds σ r.2 (names nx r.2.length k).1) (names nx r.2.length k).2).2).1,
      (names nx r.2.length k).1 ++ (ordR nx σ rs (ord nx r.1 (upds σ r.2 (names nx r.2.length k).1) (names nx r.2.length k).2).2).2.1,
      (ordR nx σ rs (ord nx r.1 (upds σ r.2 (names nx r.2.length k).1) (names nx r.2.length k).2).2).2.2)
theorem ord_rows {nx : Nat → Str × Nat} {σ : Str → Option Str} {k : Nat} {w : Str} {a b c : Tm} {bs : List Str} (h : WF (.nd w a b bs c)) :
    ∃ a' b' bs' c', ord nx (.nd w a b bs c) σ k = (.nd w a' b' bs' c', (ordR nx σ (rows (.nd w a b bs c)) k).2.2) ∧ (ordR nx σ (rows (.nd w a b bs c)) k).1 = ((rows (.nd w a' b' bs' c')).map fun r => r.1) ∧
      (ordR nx σ (rows (.nd w a b bs c)) k).2.1 = bs' ∧ bs'.length = bs.length := by
  refine ⟨(ord nx a σ k).1, (ord nx b σ (ord nx a σ k).2).1, (names nx bs.length (ord nx b σ (ord nx a σ k).2).2).1, (ord nx c (upds σ bs (names nx bs.length (ord nx b σ (ord nx a σ k).2).2).1) (names nx bs.length (ord nx b σ (ord nx a σ k).2).2).2).1, ?_⟩
  rw [ord]
  cases h with
  | un hw => rcases hw with rfl | rfl | rfl <;> (simp only [rows_shapes]; exact ⟨rfl, rfl, rfl, rfl⟩)
  | fn _ => (simp only [rows_shapes]; exact ⟨rfl, rfl, rfl, rfl⟩)
  | lt _ _ => (simp only [rows_shapes]; exact ⟨rfl, rfl, rfl, rfl⟩)
  | app _ _ => (simp only [rows_shapes]; exact ⟨rfl, rfl, rfl, rfl⟩)
  | fold _ _ _ => (simp only [rows_shapes]; exact ⟨rfl, rfl, rfl, rfl⟩)
  | loop _ _ _ => (simp only [rows_shapes]; exact ⟨rfl, rfl, rfl, rfl⟩)
theorem wf_ord {nx : Nat → Str × Nat} : ∀ {t : Tm} {σ : Str → Option Str} {k : Nat}, WF t → WF (ord nx t σ k).1
  | .nil, _, _, h => by cases h
  | .var x, σ, k, _ => .var _
  | .nd w a b bs c, σ, k, h => by
    rw [ord]
    exact wf_same h names_len wf_ord wf_ord wf_ord (fun e => by rw [e]; rfl) (fun e => by rw [e]; rfl)
theorem ht_ord {nx : Nat → Str × Nat} : ∀ {t : Tm} {σ : Str → Option Str} {k : Nat}, ht (ord nx t σ k).1 = ht t
  | .nil, _, _ => rfl
  | .var x, _, _ => rfl
  | .nd w a b bs c, σ, k => by
    rw [ord, ht, ht, ht_ord, ht_ord, ht_ord]
theorem sz_ord {nx : Nat → Str × Nat} : ∀ {t : Tm} {σ : Str → Option Str} {k : Nat}, sz (ord nx t σ k).1 = sz t
  | .nil, _, _ => rfl
  | .var x, _, _ => rfl
  | .nd w a b bs c, σ, k => by
    rw [ord, sz, sz, sz_ord, sz_ord, sz_ord, names_len]
theorem upds_sok : ∀ {bs ns : List Str} {σ : Str → Option Str}, (∀ x y, σ x = some y → PyData.strOk y = true) → (∀ x ∈ ns, PyData.strOk x = true) → ∀ x y, upds σ bs ns x = some y → PyData.strOk y = true
  | [], ns, σ, h, _, x, y, q => h x y q
  | b :: bs, [], σ, h, _, x, y, q => h x y q
  | b :: bs, n :: ns, σ, h, h', x, y, q => by
    unfold upds at q
    refine upds_sok (fun x y q => ?_) (fun x hx => h' x (List.mem_cons_of_mem _ hx)) x y q
    split at q
    · cases q
      exact h' _ List.mem_cons_self
    · exact h x y q
theorem sok_ord : ∀ {t : Tm} {σ : Str → Option Str} {k : Nat}, Sok t → (∀ x y, σ x = some y → PyData.strOk y = true) → Sok (ord (nextW tk) t σ k).1
  | .nil, _, _, h, _ => h
  | .var x, σ, k, h, h' => by
    rw [ord]
    refine sok_var.mpr ?_
    cases q : σ x with
    | none => exact sok_var.mp h
    | some y => exact h' x y q
  | .nd w a b bs c, σ, k, h, h' => by
    rw [sok_nd] at h
    rw [ord]
    refine sok_nd.mpr ⟨names_sok, sok_ord h.2.1 h', sok_ord h.2.2.1 h', sok_ord h.2.2.2 (upds_sok h' names_sok)⟩
theorem bnd_sum {t : Tm} (h : WF t) : (bnd t).length = ((rows t).map fun r => r.2.length + (bnd r.1).length).sum := by
  rw [bnd_rows h, List.length_flatten, List.map_map]
  congr 1
  refine List.map_congr_left fun r _ => ?_
  simp only [Function.comp, List.length_append]
end
section
variable {L n i k : Nat} {m : Mem} {o : Str → List D → Mem → RD}
theorem W_cl {l : List Ob} (hm : Cl m) (hl : l.all (obB 0) = true) : Cl (Wm m i k l) := by
  have h1 : Cl (m.set i (Cn k)) := hm.set rfl
  unfold Fp.Cl at h1 ⊢
  rw [List.all_append, Bool.and_eq_true]
  refine ⟨List.all_eq_true.mpr fun x hx => obB_mono (by rw [List.length_append]; omega) (List.all_eq_true.mp h1 x hx), List.all_eq_true.mpr fun x hx => obB_mono (Nat.zero_le _) (List.all_eq_true.mp hl x hx)⟩
theorem on_loop {te dn pd od : D} {o4 : Option D} {tk : List Str} {ps : List D} {mores : List Ob} {all : List D} (hi : i < m.length) (hm : Cl m) (hps : refsBs 0 ps = true) (hmo : mores.all (obB 0) = true)
    (ho : ∀ k l, Cl (Wm m i k l) → k + tk.length < 10000 → o "next_name" [.ref i, encs tk] (Wm m i k l) = .ok (.str (nextW tk k).1, (Wm m i k l).set i (Cn (nextW tk k).2))) :
    ∀ (bs : List Str) (k : Nat) (kvs : List (Key × D)) (bd : List Str) (σ : Str → Option Str) (o10 : Option D), Sk kvs σ → refsBs 0 (kvs.map (·.2)) = true → kvs.length + bs.length ≤ 1100 → bd.length + bs.length ≤ 10000 → k + tk.length + bs.length * (tk.length + 1) < 10000 →
    ∃ kvs' o10', forL (.nm 10) b_ordered_1 ⟨o, L⟩ none all (bs.map D.str) [some te, some dn, some (.ref i), some (encs tk), o4, some (.ref m.length), some (.ref (m.length + 1)), some pd, some od, some (.ref (m.length + (mores.length + 2))), o10] (Wm m i k (.lst ps :: .lst (bd.map D.str) :: (mores ++ [.dct kvs]))) =
        .ok (.nx [some te, some dn, some (.ref i), some (encs tk), o4, some (.ref m.length), some (.ref (m.length + 1)), some pd, some od, some (.ref (m.length + (mores.length + 2))), o10'],
          Wm m i (names (nextW tk) bs.length k).2 (.lst ps :: .lst ((bd ++ (names (nextW tk) bs.length k).1).map D.str) :: (mores ++ [.dct kvs']))) ∧
      Sk kvs' (upds σ bs (names (nextW tk) bs.length k).1) ∧ refsBs 0 (kvs'.map (·.2)) = true ∧ kvs'.length ≤ kvs.length + bs.length := by
  intro bs
  induction bs with
  | nil =>
    intro k kvs bd σ o10 hs hr _ _ _
    refine ⟨kvs, o10, ?_, hs, hr, Nat.le_refl _⟩
    rw [show (names (nextW tk) ([] : List Str).length k) = ([], k) from rfl]
    dsimp only
    rw [List.append_nil]
    rfl
  | cons x bs ih =>
    intro k kvs bd σ o10 hs hr hkl hbl hk
    rw [List.length_cons] at hkl hbl hk
    have e : (bs.length + 1) * (tk.length + 1) = bs.length * (tk.length + 1) + (tk.length + 1) := by rw [Nat.add_mul, Nat.one_mul]
    have hle := nextW_le (tk := tk) k
    have hcl : Cl (Wm m i k (.lst ps :: .lst (bd.map D.str) :: (mores ++ [.dct kvs]))) := W_cl hm (by
      rw [List.all_cons, List.all_cons, List.all_append, hmo]
      simp only [obB, hps, refss_strs, List.all_cons, List.all_nil, hr, Bool.and_true])
    have turn := on_turn (L := L) (te := te) (dn := dn) (pd := pd) (od := od) (o4 := o4) (x := x) hi (ho k _ hcl (by omega)) (by omega) (by omega)
    have hnm := ok_nmW
    obtain ⟨kvs', o10', h1, h2, h3, h4⟩ := ih (nextW tk k).2 (dPut kvs (.inr x) (.str (nextW tk k).1)) (bd ++ [(nextW tk k).1]) (fun z => if z = x then some (nextW tk k).1 else σ z) (some (.str x)) (hs.put x _) (put_refs hr rfl)
      (by have := put_len (kvs := kvs) (k := (.inr x : Key)) (v := .str (nextW tk k).1); omega) (by rw [List.length_append, List.length_singleton]; omega) (by omega)
    refine ⟨kvs', o10', ?_, h2, h3, by have := put_len (kvs := kvs) (k := (.inr x : Key)) (v := .str (nextW tk k).1); rw [List.length_cons]; omega⟩
    rw [show names (nextW tk) (x :: bs).length k = ((nextW tk k).1 :: (names (nextW tk) bs.length (nextW tk k).2).1, (names (nextW tk) bs.length (nextW tk k).2).2) from rfl]
    dsimp only
    rw [List.append_assoc, List.singleton_append] at h1
    rw [List.map_cons, forL]
    show (if true then _ else _) = _
    rw [if_pos rfl]
    dsimp only [asgD, List.set]
    rw [turn, evb]
    exact h1
theorem or_turn {te dn : D} {o4 o9 o10 : Option D} {tk : List Str} {ps : List D} {bd : List Str} {mores : List Ob} {kvs : List (Key × D)} {σ : Str → Option Str} {r : Tm × List Str} (hi : i < m.length) (hm : Cl m) (hps : refsBs 0 ps = true) (hmo : mores.all (obB 0) = true)
    (ho : ∀ k l, Cl (Wm m i k l) → k + tk.length < 10000 → o "next_name" [.ref i, encs tk] (Wm m i k l) = .ok (.str (nextW tk k).1, (Wm m i k l).set i (Cn (nextW tk k).2)))
    (hdn : ∀ k' l, dictD dn (Wm m i k' l) = some kvs) (hs : Sk kvs σ) (hr : refsBs 0 (kvs.map (·.2)) = true) (hkl : kvs.length + r.2.length ≤ 1100) (hbl : bd.length + r.2.length ≤ 10000) (hpl : ps.length ≤ 10000)
    (hk : k + tk.length + r.2.length * (tk.length + 1) < 10000)
    (ho2 : ∀ (kvs' : List (Key × D)) (l : List Ob) (q : Nat), Sk kvs' (upds σ r.2 (names (nextW tk) r.2.length k).1) → refsBs 0 (kvs'.map (·.2)) = true → kvs'.length ≤ kvs.length + r.2.length → l.all (obB 0) = true → (∀ k' l', dictD (.ref q) (Wm m i k' l ++ l') = some kvs') →
      o "ordered" [enc r.1, .ref q, .ref i, encs tk] (Wm m i (names (nextW tk) r.2.length k).2 l) =
        .ok (enc (ord (nextW tk) r.1 (upds σ r.2 (names (nextW tk) r.2.length k).1) (names (nextW tk) r.2.length k).2).1, Wm m i (ord (nextW tk) r.1 (upds σ r.2 (names (nextW tk) r.2.length k).1) (names (nextW tk) r.2.length k).2).2 l)) :
    ∃ kvs' o9' o10', b_ordered_2 ⟨o, L⟩ [some te, some dn, some (.ref i), some (encs tk), o4, some (.ref m.length), some (.ref (m.length + 1)), some (enc r.1), some (encs r.2), o9, o10] (Wm m i k (.lst ps :: .lst (bd.map D.str) :: mores)) =
      .ok (.nx [some te, some dn, some (.ref i), some (encs tk), o4, some (.ref m.length), some (.ref (m.length + 1)), some (enc r.1), some (encs r.2), o9', o10'],
        Wm m i (ord (nextW tk) r.1 (upds σ r.2 (names (nextW tk) r.2.length k).1) (names (nextW tk) r.2.length k).2).2
          (.lst (ps ++ [enc (ord (nextW tk) r.1 (upds σ r.2 (names (nextW tk) r.2.length k).1) (names (nextW tk) r.2.length k).2).1]) :: .lst ((bd ++ (names (nextW tk) r.2.length k).1).map D.str) :: (mores ++ [.dct kvs']))) ∧
      refsBs 0 (kvs'.map (·.2)) = true := by
  have hLIM : LIM = 16777216 := rfl
  have hdict := dict_true (hdn k (.lst ps :: .lst (bd.map D.str) :: mores)) (by omega)
  have ql : (Wm m i k (.lst ps :: .lst (bd.map D.str) :: mores)).length = m.length + (mores.length + 2) := by
    rw [W_len, List.length_cons, List.length_cons]
  have em : Wm m i k (.lst ps :: .lst (bd.map D.str) :: mores) ++ [Ob.dct kvs] = Wm m i k (.lst ps :: .lst (bd.map D.str) :: (mores ++ [.dct kvs])) := by
    show _ ++ _ ++ _ = _ ++ _
    rw [List.append_assoc]
    rfl
  rw [ql, em] at hdict
  obtain ⟨kvs', o10', h1, h2, h3, h4⟩ := on_loop (L := L) (te := te) (dn := dn) (pd := enc r.1) (od := encs r.2) (o4 := o4) (all := r.2.map D.str) hi hm hps hmo ho r.2 k kvs bd σ o10 hs hr hkl hbl hk
  refine ⟨kvs', some (.ref (m.length + (mores.length + 2))), o10', ?_, h3⟩
  have ix : ∀ (a b : Ob) (X : Ob), (a :: b :: (mores ++ [X]))[mores.length + 2]? = some X := fun a b X => by
    show (mores ++ [X])[mores.length]? = some X
    rw [List.getElem?_append_right (Nat.le_refl _), Nat.sub_self]
    rfl
  have hal : (Ob.lst ps :: .lst ((bd ++ (names (nextW tk) r.2.length k).1).map D.str) :: (mores ++ [.dct kvs'])).all (obB 0) = true := by
    rw [List.all_cons, List.all_cons, List.all_append, hmo]
    simp only [obB, hps, refss_strs, List.all_cons, List.all_nil, h3, Bool.and_true]
  have ho2 := ho2 kvs' (.lst ps :: .lst ((bd ++ (names (nextW tk) r.2.length k).1).map D.str) :: (mores ++ [.dct kvs'])) (m.length + (mores.length + 2)) h2 h3 h4 hal (fun k' l' => dict_ref (by
    rw [List.getElem?_append_left (by rw [W_len, List.length_cons, List.length_cons, List.length_append, List.length_singleton]; omega), W_get, ix]))
  generalize ord (nextW tk) r.1 (upds σ r.2 (names (nextW tk) r.2.length k).1) (names (nextW tk) r.2.length k).2 = q at ho2 ⊢
  generalize names (nextW tk) r.2.length k = ns at h1 ho2 ⊢
  have g1 : (Wm m i ns.2 (.lst ps :: .lst ((bd ++ ns.1).map D.str) :: (mores ++ [.dct kvs'])))[m.length]? = some (.lst ps) := by
    rw [W_get0]
    rfl
  have i1 := isL_ref g1
  have g2 : (Wm m i q.2 (.lst ps :: .lst ((bd ++ ns.1).map D.str) :: (mores ++ [.dct kvs'])))[m.length]? = some (.lst ps) := by
    rw [W_get0]
    rfl
  have p2 := app_ref (e := enc q.1) g2 (by omega)
  rw [W_set0, show (Ob.lst ps :: .lst ((bd ++ ns.1).map D.str) :: (mores ++ [.dct kvs'])).set 0 (.lst (ps ++ [enc q.1])) = .lst (ps ++ [enc q.1]) :: .lst ((bd ++ ns.1).map D.str) :: (mores ++ [.dct kvs']) from rfl] at p2
  unfold encs at h1 ho2 ⊢
  unfold b_ordered_2
  simp only [ev, evd, evb, hdict, h1, i1, if_true, ho2, p2]
end
end K05

set_option maxHeartbeats 4000000
/-! K05u: ordered, tidy -/
namespace K05
open PySem Fp L2
theorem rows_fst {w : Str} {a b c : Tm} {bs bs1 : List Str} {f : Tm → D} : (rows (.nd w a b bs c)).map (fun r => f r.1) = (rows (.nd w a b bs1 c)).map fun r => f r.1 := by
  rw [rows, rows]
  generalize kind w = kd
  match kd with
  | 0 => rfl
  | 1 => rfl
  | 2 => rfl
  | 3 => rfl
  | _ + 4 => rfl
section
variable {L : Nat}
theorem ordered_ok {tk : List Str} {i : Nat} (hL : 20000 ≤ L) : ∀ (h : Nat) {t : Tm}, WF t → ht t ≤ h → ∀ {n : Nat} {M : Mem} {dn : D} {kvs : List (Key × D)} {σ : Str → Option Str} {k : Nat}, h + 5 ≤ n → Cl M → M[i]? = some (Cn k) →
    (∀ k' l, dictD dn (Wm M i k' l) = some kvs) → Sk kvs σ → refsBs 0 (kvs.map (·.2)) = true → kvs.length + 2 * h ≤ 1000 → k + tk.length + (bnd t).length * (tk.length + 1) < 10000 → sz t ≤ 4000 →
    callN T.tab L n "ordered" [enc t, dn, .ref i, encs tk] M = .ok (enc (ord (nextW tk) t σ k).1, M.set i (Cn (ord (nextW tk) t σ k).2)) := by
  intro h
  induction h using Nat.strongRecOn with
  | ind h ih =>
    intro t hw hh n m dn kvs σ k hn hm hg hdn hs hkr hkl hk hsz
    obtain ⟨n, rfl⟩ : ∃ k, n = k + 1 := ⟨n - 1, by omega⟩
    have hil : i < m.length := (List.getElem?_eq_some_iff.mp hg).1
    have hmk : Wm m i k [] = m := by
      show m.set i _ ++ [] = m
      rw [set_same hg, List.append_nil]
    rw [callN_at tab_ordered rfl]
    cases t with
    | nil => cases hw
    | var x =>
      have hdn0 : dictD dn m = some kvs := by
        have := hdn k []
        rwa [hmk] at this
      have i0 := isDd_of hdn0
      have g0 := get2_of (e := .str x) (x := x) hdn0
      have e0 : D.tup [.str "var", (dGet kvs (.inr x)).getD (.str x)] = enc (ord (nextW tk) (.var x) σ k).1 := by
        rw [ord, hs x]
        cases σ x <;> rfl
      rw [show (ord (nextW tk) (.var x) σ k).2 = k from rfl, set_same hg, ← e0]
      refine fin_same ?_ hm (by rw [e0]; exact refs_enc _)
      unfold m_ordered
      simp only [ev, evd, evb, List.map_cons, List.map_nil, List.length_cons, List.length_nil, List.replicate, List.cons_append, List.nil_append, enc_shapes, wds, i0, if_true, g0]
    | nd w a b bs c =>
      obtain ⟨hw1, hw2, hw3⟩ := word_nd (m := m) hw
      have hm2 : Cl (m ++ [.lst [], .lst []]) := by
        have := (hm.app (o := .lst []) rfl).app (o := .lst []) rfl
        rwa [List.append_assoc] at this
      have hp := parts_ok (L := L) (n := n - 1) hw hm2
      have hb := binds_ok (L := L) (n := n - 2) hw hm2
      rw [show n - 1 + 1 = n by omega] at hp
      rw [show n - 2 + 2 = n by omega] at hb
      have hrw := rows_wf2 hw
      have hr3 := rows_cnt hw
      have hr1 := rows_sz1 hw
      have hbs := bnd_sum hw
      rw [hbs] at hk
      have hr2 : ∀ r ∈ rows (.nd w a b bs c), r.2.length ≤ 2 := by
        intro r hr
        have h1 := wf_bs hw
        have h2 := rows_bs hw
        have h3 := congrArg List.length h2
        rw [List.length_flatten, List.map_map] at h3
        have := le_sum (List.mem_map.mpr ⟨r, hr, rfl⟩ : (List.length ∘ fun r : Tm × List Str => r.2) r ∈ (rows (.nd w a b bs c)).map (List.length ∘ fun r => r.2))
        simp only [Function.comp] at this h3
        omega
      obtain ⟨a', b', bs', c', hO, hO1, hO2, hO3⟩ := ord_rows (nx := nextW tk) (σ := σ) (k := k) hw
      have hwO : WF (.nd w a' b' bs' c') := by
        have := wf_ord (nx := nextW tk) (σ := σ) (k := k) hw
        rwa [hO] at this
      rw [hO]
      dsimp only
      have hbl := wf_bs hw
      have hwp := fun {p : D} {m : Mem} (hm : Cl m) => wparts_ok (L := L) (n := n - 1) (m := m) (a' := a') (b' := b') (c' := c') (p := p) hm hw
      rw [show n - 1 + 1 = n by omega] at hwp
      have hwI : WF (.nd w a' b' bs c') := by
        refine wf_same hwO hO3.symm id id id id id
      have hwn := fun {p : D} {m : Mem} (hm : Cl m) (hb0 : bs ≠ []) => wnames_ok (L := L) (n := n - 1) (m := m) (bs' := bs') (p := p) hm hwI hb0 hO3
      rw [show n - 1 + 1 = n by omega] at hwn
      have hbn : bs' = [] → bs = [] := fun e => by
        rw [e] at hO3
        exact List.length_eq_zero_iff.mp hO3.symm
      have hnx := fun k l (hc : Cl (Wm m i k l)) (hk : k + tk.length < 10000) => next_ok (L := L) (n := n - 2) (k := k) (tk := tk) hL hk hc (W_geti hil)
      rw [show n - 2 + 2 = n by omega] at hnx
      have hrows' : ∀ bs1 : List Str, ((rows (.nd w a' b' bs1 c')).map fun r => enc r.1) = ((rows (.nd w a' b' bs' c')).map fun r => r.1).map enc := by
        intro bs1
        rw [List.map_map]
        exact rows_fst (f := enc)
      have hzp : zipD ((rows (.nd w a b bs c)).map fun r => enc r.1) ((rows (.nd w a b bs c)).map fun r => encs r.2) = (rows (.nd w a b bs c)).map fun r => .tup [enc r.1, encs r.2] := zip_rows _
      generalize enc (.nd w a b bs c) = te at hp hb hw1 hwp
      generalize hrt : rows (.nd w a b bs c) = rs at hrw hr3 hr1 hr2 hk hO1 hO2 hbs
      unfold partsD at hp
      unfold bindsD at hb
      rw [hrt] at hzp hp hb
      generalize hPS : (ordR (nextW tk) σ rs k).1 = PS at hO1
      generalize hK : (ordR (nextW tk) σ rs k).2.2 = K
      have hPSl : PS.length ≤ 3 := by
        rw [hO1, List.length_map]
        exact rows_cnt hwO
      have loop := forL_rest (t := .tp [7, 8]) (b := b_ordered_2) (c := ⟨callN T.tab L n, L⟩) (all := rs.map fun r => .tup [enc r.1, encs r.2]) (g := fun r : Tm × List Str => .tup [enc r.1, encs r.2])
        (E := fun rest ρ m' => ∃ o7 o8 o9 o10 ps bd mores k', ρ = [some te, some dn, some (.ref i), some (encs tk), none, some (.ref m.length), some (.ref (m.length + 1)), o7, o8, o9, o10] ∧ m' = Wm m i k' (.lst ps :: .lst (bd.map D.str) :: mores) ∧
          ps ++ (ordR (nextW tk) σ rest k').1.map enc = PS.map enc ∧ bd ++ (ordR (nextW tk) σ rest k').2.1 = bs' ∧ (ordR (nextW tk) σ rest k').2.2 = K ∧ (∀ r ∈ rest, r ∈ rs) ∧ mores.all (obB 0) = true ∧ refsBs 0 ps = true ∧
          k' + tk.length + (rest.map fun r => r.2.length + (bnd r.1).length).sum * (tk.length + 1) < 10000)
        (fun r rest ρ m' hE => by
          obtain ⟨o7, o8, o9, o10, ps, bd, mores, k', rfl, rfl, e1, e2, e3, hr, hmo, hps, hkk⟩ := hE
          have hx := hr r List.mem_cons_self
          rw [List.map_cons, List.sum_cons, Nat.add_mul, Nat.add_mul] at hkk
          rw [ordR] at e1 e2 e3
          dsimp only at e1 e2 e3
          have hL1 : ps.length ≤ 3 := by
            have := congrArg List.length e1
            rw [List.length_append, List.length_map, List.length_map] at this
            omega
          have hL2 : bd.length + r.2.length ≤ 2 := by
            have := congrArg List.length e2
            rw [List.length_append, List.length_append, names_len] at this
            omega
          have hnl := names_le (tk := tk) (j := r.2.length) (k := k')
          have hol := ord_le (tk := tk) (t := r.1) (σ := upds σ r.2 (names (nextW tk) r.2.length k').1) (k := (names (nextW tk) r.2.length k').2)
          have hlt := (hrw r hx).2
          obtain ⟨kvs', o9', o10', hT, hT2⟩ := or_turn (L := L) (te := te) (dn := dn) (o4 := none) (o9 := o9) (o10 := o10) (bd := bd) (r := r) (k := k') hil hm hps hmo hnx hdn hs hkr (by omega) (by omega) (by omega) (by omega)
            (fun kvs' l q g1 g2 g3 g4 g5 => by
              have q1 := ih (ht r.1) (by omega) (hrw r hx).1 (Nat.le_refl _) (n := n) (M := Wm m i (names (nextW tk) r.2.length k').2 l) (dn := .ref q) (kvs := kvs') (σ := upds σ r.2 (names (nextW tk) r.2.length k').1) (k := (names (nextW tk) r.2.length k').2) (by omega) (W_cl hm g4) (W_geti hil)
                (fun k'' l'' => by
                  show dictD (.ref q) ((Wm m i _ l).set i (Cn k'') ++ l'') = _
                  rw [W_seti hil]
                  exact g5 k'' l'') g1 g2 (by have := hr2 r hx; omega) (by omega) (by have := hr1 r hx; omega)
              rw [W_seti hil] at q1
              exact q1)
          refine ⟨_, _, _, rfl, .inl hT, some _, some _, o9', o10', _, _, _, _, rfl, rfl, ?_, ?_, e3, fun r hr' => hr r (List.mem_cons_of_mem _ hr'), ?_, ?_, ?_⟩
          · rw [List.append_assoc]
            exact e1
          · rw [List.append_assoc]
            exact e2
          · rw [List.all_append, hmo, List.all_cons, List.all_nil, Bool.and_true]
            exact hT2
          · rw [refss_append, hps, refsBs, refs_enc]
            rfl
          · omega)
        (xs := rs) (ρ := [some te, some dn, some (.ref i), some (encs tk), none, some (.ref m.length), some (.ref (m.length + 1)), none, none, none, none]) (m := m ++ [.lst [], .lst []])
        ⟨none, none, none, none, [], [], [], k, rfl, (by show _ = m.set i _ ++ _; rw [set_same hg]; rfl), (by rw [hPS]; rfl), hO2, hK, fun r h => h, rfl, rfl, hk⟩
      obtain ⟨ρ', m', h1, o7, o8, o9, o10, ps, bd, mores, k', rfl, rfl, e1, e2, e3, _, hmo, hps, _⟩ := loop
      rw [show ordR (nextW tk) σ [] k' = ([], [], k') from rfl] at e1 e2 e3
      rw [List.map_nil, List.append_nil] at e1
      rw [List.append_nil] at e2
      dsimp only at e3
      subst e1
      subst e2
      subst e3
      have hal : (Ob.lst (PS.map enc) :: .lst (bd.map D.str) :: mores).all (obB 0) = true := by
        rw [List.all_cons, List.all_cons, hmo]
        simp only [obB, hps, refss_strs, Bool.and_true]
      have hc := W_cl (i := i) (k := k') hm hal
      have g1 : (Wm m i k' (.lst (PS.map enc) :: .lst (bd.map D.str) :: mores))[m.length]? = some (.lst (PS.map enc)) := by
        rw [W_get0]
        rfl
      have g2 : (Wm m i k' (.lst (PS.map enc) :: .lst (bd.map D.str) :: mores))[m.length + 1]? = some (.lst (bd.map D.str)) := by
        rw [W_get]
        rfl
      have hwp := hwp (p := .ref m.length) hc (by
        rw [items_ref g1, hO1, hrows'])
      have hbok : ∀ x ∈ bd, PyData.strOk x = true := by
        rw [← hO2]
        have go : ∀ (rs : List (Tm × List Str)) (k : Nat), ∀ x ∈ (ordR (nextW tk) σ rs k).2.1, PyData.strOk x = true := by
          intro rs
          induction rs with
          | nil => intro k x h; cases h
          | cons r rs ih =>
            intro k x h
            rw [ordR] at h
            rcases List.mem_append.mp h with q | q
            · exact names_sok x q
            · exact ih _ x q
        exact go rs k
      have hne := cpNe_ref (es := []) g2 (by
        rw [plD]
        refine pls_all fun d hd => ?_
        obtain ⟨x, hx, rfl⟩ := List.mem_map.mp hd
        exact hbok x hx) rfl
      rw [eqDs_nil] at hne
      have hwn := hwn (p := .ref (m.length + 1)) hc
      rw [items_ref g2] at hwn
      have ha : m ++ [Ob.lst []] ++ [Ob.lst []] = m ++ [Ob.lst [], .lst []] := by simp
      have hlen : (m ++ [Ob.lst []]).length = m.length + 1 := by simp
      refine fin_ret (m1 := m.set i (Cn k')) (l := .lst (PS.map enc) :: .lst (bd.map D.str) :: mores) (d := enc (.nd w a' b' bd c')) ?_ (List.length_set ..) (hm.set rfl) (frz_id (refs_mono (Nat.zero_le _) (refs_enc _)))
      show m_ordered _ [some te, some dn, some (.ref i), some (encs tk), none, none, none, none, none, none, none] m = _
      have hcall : ∀ (X : SS) (ρ : EnvD), X = X := fun _ _ => rfl
      by_cases hb0 : bd = []
      · have hbs0 := hbn hb0
        subst hb0
        subst hbs0
        rw [List.map_nil, List.isEmpty_nil] at hne
        rw [List.map_nil] at hwp
        unfold m_ordered
        simp only [ev, evd, evb, List.map_nil, hw1, hw2, hw3, wds, ha, hlen, hp, hb, hzp, h1, hwp, hne]
      · have hemp : (bd.map D.str).isEmpty = false := by
          cases bd with
          | nil => exact absurd rfl hb0
          | cons x bd => rfl
        rw [hemp] at hne
        have hwn := hwn (fun e => hb0 (by rw [e] at hO3; exact List.length_eq_zero_iff.mp hO3)) rfl
        unfold m_ordered
        simp only [ev, evd, evb, List.map_nil, hw1, hw2, hw3, wds, ha, hlen, hp, hb, hzp, h1, hwp, hne, hwn]
theorem wf_tidy {t : Tm} (h : WF t) : WF (tidyW t) := wf_ord h
theorem sok_tidy {t : Tm} (h : Sok t) : Sok (tidyW t) := sok_ord h fun x y q => by cases q
theorem ht_tidy (t : Tm) : ht (tidyW t) = ht t := ht_ord
theorem sz_tidy (t : Tm) : sz (tidyW t) = sz t := sz_ord
theorem tidy_ok {t : Tm} (hL : 20000 ≤ L) (hw : WF t) (hs : Sok t) (hh : ht t ≤ 20) (hsz : sz t ≤ 90) {n : Nat} (hn : 30 ≤ n) {m : Mem} (hm : Cl m) : callN T.tab L n "tidy" [enc t] m = .ok (enc (tidyW t), m) := by
  obtain ⟨n, rfl⟩ : ∃ k, n = k + 1 := ⟨n - 1, by omega⟩
  rw [callN_at tab_tidy rfl]
  have hm1 : Cl (m ++ [.lst [.int 0]]) := hm.app rfl
  have hf := free_ok (L := L) 20 hw hh (by omega) hs (n := n) (m := m ++ [.lst [.int 0]]) (by omega) hm1
  have hfl := free_len t
  have hbl := bnd_len t
  have hmul : (bnd t).length * ((free t).length + 1) ≤ 90 * 91 := Nat.mul_le_mul (by omega) (by omega)
  have hg : (m ++ [Ob.lst [.int 0]])[m.length]? = some (Cn 0) := own_get0
  have hO := ordered_ok (tk := free t) (i := m.length) hL 20 hw hh (n := n) (M := m ++ [.lst [.int 0]]) (dn := .dct [] []) (kvs := []) (σ := fun _ => none) (k := 0) (by omega) hm1 hg (fun _ _ => rfl) (fun _ => rfl) rfl (by simp) (by omega) (by omega)
  rw [own_set0] at hO
  refine fin_data (l := [Cn (ord (nextW (free t)) t (fun _ => none) 0).2]) ?_ hm (refs_enc _)
  show m_tidy _ [some (enc t)] m = .ok (.ret (enc (ord (nextW (free t)) t (fun _ => none) 0).1), _)
  have hmk : mkD false [] m = .ok (.dct [] [], m) := rfl
  unfold encs at hO hf
  unfold m_tidy
  simp only [ev, evd, ev2, evb, hmk, hf, hO]
  rfl
end
end K05

set_option maxHeartbeats 4000000
/-! K05v: is_apart, can_step, stepped, renamed -/
namespace K05
open PySem Fp L2
section
variable {L n : Nat} {m : Mem} {o : Str → List D → Mem → RD}
def apartB (t : Tm) : Bool := ((((ddS (bnd t)).length : Nat) : Int) == (((bnd t).length : Nat) : Int)) && !((free t).any fun x => decide (x ∈ bnd t))
theorem cpIn_lstS {x : Str} {ys : List Str} : cpIn (.str x) (.lst (ys.map D.str)) m = some (decide (x ∈ ys)) := cpIn_strs (m := m) (x := x) (ys := ys)
theorem bools_map {α : Type} (f : α → Bool) : ∀ xs : List α, boolsD (xs.map fun x => D.bl (f x)) = some (xs.map f)
  | [] => rfl
  | x :: xs => by
    rw [List.map_cons, boolsD, bools_map f xs]
    rfl
theorem apartB_ok {t : Tm} (hw : WF t) (hs : Sok t) (hh : ht t ≤ 20) (hsz : sz t ≤ 4000) {n : Nat} (hn : 30 ≤ n) {m : Mem} (hm : Cl m) : callN T.tab L n "is_apart" [enc t] m = .ok (.bl (apartB t), m) := by
  obtain ⟨n, rfl⟩ : ∃ k, n = k + 1 := ⟨n - 1, by omega⟩
  rw [callN_at tab_is_apart rfl]
  have hb := bound_ok (L := L) 20 hw hh hsz (n := n) (m := m) (by omega) hm
  have hf := free_ok (L := L) 20 hw hh hsz hs (n := n) (m := m) (by omega) hm
  have hbl := bnd_len t
  have hfl := free_len t
  have hS := lenSet_ok (d := .lst ((bnd t).map D.str)) (m := m) (xs := bnd t) rfl (by omega)
  have hC := comp_map (c := ⟨callN T.tab L n, L⟩) (ρ := [some (enc t), some (.lst ((bnd t).map D.str)), none]) (i := 2) (all := (free t).map D.str) (m := m) (e := sOp (opC cpIn) (sVar 2) (sVar 1)) (g := D.str) (f := fun x => D.bl (decide (x ∈ bnd t))) (xs := free t) (fun x _ => by
    have h1 := cpIn_lstS (m := m) (x := x) (ys := bnd t)
    simp only [ev, evd, evb, h1])
  have hM := mkL_lst (m := m) (ds := (free t).map fun x => D.bl (decide (x ∈ bnd t))) (by rw [List.length_map]; have : LIM = 16777216 := rfl; omega)
  have hA : biAny (.lst ((free t).map fun x => D.bl (decide (x ∈ bnd t)))) m = .ok (.bl ((free t).any fun x => decide (x ∈ bnd t)), m) := by
    unfold biAny
    rw [show listD (.lst ((free t).map fun x => D.bl (decide (x ∈ bnd t)))) m = some ((free t).map fun x => D.bl (decide (x ∈ bnd t))) from rfl, Option.bind_some, bools_map]
    dsimp only
    rw [List.any_map]
    rfl
  have hN : ∀ b, opNot (.bl b) m = .ok (.bl (!b), m) := fun _ => rfl
  have hE := cpEq_int (m := m) (x := (((ddS (bnd t)).length : Nat) : Int)) (y := (((bnd t).length : Nat) : Int))
  have hln : ((bnd t).map D.str).length = (bnd t).length := List.length_map _
  unfold lstS at hb
  unfold encs at hf
  unfold apartB
  generalize enc t = te at hb hf hC
  refine fin_same ?_ hm rfl
  unfold m_is_apart
  cases q : ((((ddS (bnd t)).length : Nat) : Int) == (((bnd t).length : Nat) : Int)) with
  | true =>
    rw [q] at hE
    simp only [ev, evd, evb, List.map_cons, List.map_nil, List.length_cons, List.length_nil, List.replicate, List.cons_append, List.nil_append, hb, hS, hln, hE, hf, hC, hM, hA, hN, Bool.true_and]
  | false =>
    rw [q] at hE
    simp only [ev, evd, evb, List.map_cons, List.map_nil, List.length_cons, List.length_nil, List.replicate, List.cons_append, List.nil_append, hb, hS, hln, hE, Bool.false_and]
theorem step_app_body {x : Str} {a b : D} : m_can_step ⟨o, L⟩ [some (.tup [.str "app", .tup [.str "fun", .str x, a], b]), none] m = .ok (.ret (.bl true), m) := by kernel_rfl
theorem step_let_body {x : Str} {a b : D} : m_can_step ⟨o, L⟩ [some (.tup [.str "let", .str x, a, b]), none] m = .ok (.ret (.bl true), m) := by kernel_rfl
theorem stepped_app {x : Str} {t o' : Tm} {r : D} (hm : Cl m) (hr : refsB 0 r = true) (ho : callN T.tab L (n + 1) "replaced" [enc t, .str x, enc o'] m = .ok (r, m)) : callN T.tab L (n + 2) "stepped" [.tup [.str "app", .tup [.str "fun", .str x, enc t], enc o']] m = .ok (r, m) := by
  rw [callN_at tab_stepped rfl]
  have hc : callN T.tab L (n + 1) "can_step" [.tup [.str "app", .tup [.str "fun", .str x, enc t], enc o']] m = .ok (.bl true, m) := by
    rw [callN_at tab_can_step rfl]
    exact fin_same step_app_body hm rfl
  refine fin_same ?_ hm hr
  unfold m_stepped
  simp only [ev, evd, evb, List.map_cons, List.map_nil, List.length_cons, List.length_nil, List.replicate, List.cons_append, List.nil_append, wds, hc, ho]
theorem stepped_let {x : Str} {t o' : Tm} {r : D} (hm : Cl m) (hr : refsB 0 r = true) (ho : callN T.tab L (n + 1) "replaced" [enc t, .str x, enc o'] m = .ok (r, m)) : callN T.tab L (n + 2) "stepped" [.tup [.str "let", .str x, enc o', enc t]] m = .ok (r, m) := by
  rw [callN_at tab_stepped rfl]
  have hc : callN T.tab L (n + 1) "can_step" [.tup [.str "let", .str x, enc o', enc t]] m = .ok (.bl true, m) := by
    rw [callN_at tab_can_step rfl]
    exact fin_same step_let_body hm rfl
  refine fin_same ?_ hm hr
  unfold m_stepped
  simp only [ev, evd, evb, List.map_cons, List.map_nil, List.length_cons, List.length_nil, List.replicate, List.cons_append, List.nil_append, wds, hc, ho]
theorem ren_turn {dn : D} {t r : D} {x y : Str} (hi : opIx dn (.str x) m = .ok (.str y, m)) (ho : o "replaced" [t, .str x, .tup [.str "var", .str y]] m = .ok (r, m)) :
    b_renamed_1 ⟨o, L⟩ [some t, some dn, some (.str x)] m = .ok (.nx [some r, some dn, some (.str x)], m) := by
  unfold b_renamed_1
  simp only [ev, evd, evb, hi, ho]
theorem sort1 (x : Str) : sortS [x] = [x] := List.perm_singleton.mp (sortS_perm [x])
theorem ren1 {x y : Str} {t r : D} (hm : Cl m) (hr : refsB 0 r = true) (ho : callN T.tab L n "replaced" [t, .str x, .tup [.str "var", .str y]] m = .ok (r, m)) : callN T.tab L (n + 1) "renamed" [t, .dct [.inr x] [.str y]] m = .ok (r, m) := by
  rw [callN_at tab_renamed rfl]
  have h1 : biSorted (.dct [.inr x] [.str y]) m = .ok (.lst [.str x], m) := by
    show (if ([x] : List Str).length < 64 then R.ok (D.lst ((sortS [x]).map D.str), m) else R.bad) = _
    rw [if_pos (show ([x] : List Str).length < 64 by rw [List.length_singleton]; decide), sort1]
    rfl
  have h2 : opIx (.dct [.inr x] [.str y]) (.str x) m = .ok (.str y, m) := by
    show (match dGet [((Sum.inr x : Key), D.str y)] (.inr x) with | some v => R.ok (v, m) | none => R.bad) = _
    rw [dGet_cons, if_pos rfl]
  have h3 := ren_turn (L := L) h2 ho
  have h4 : forL (.nm 2) b_renamed_1 ⟨callN T.tab L n, L⟩ none [.str x] [.str x] [some t, some (.dct [.inr x] [.str y]), none] m = .ok (.nx [some r, some (.dct [.inr x] [.str y]), some (.str x)], m) := by
    rw [forL]
    show (if true then _ else _) = _
    rw [if_pos rfl]
    dsimp only [asgD, List.set]
    rw [h3, evb]
    rfl
  refine fin_same ?_ hm hr
  unfold m_renamed
  simp only [ev, evd, evb, List.map_cons, List.map_nil, List.length_cons, List.length_nil, List.replicate, List.cons_append, List.nil_append, h1, h4]
theorem ren2 {t r r2 : D} (hm : Cl m) (hr : refsB 0 r2 = true) (ho : callN T.tab L n "replaced" [t, .str "q", .tup [.str "var", .str "x"]] m = .ok (r, m)) (ho2 : callN T.tab L n "replaced" [r, .str "y", .tup [.str "var", .str "q"]] m = .ok (r2, m)) :
    callN T.tab L (n + 1) "renamed" [t, .dct [.inr "q", .inr "y"] [.str "x", .str "q"]] m = .ok (r2, m) := by
  rw [callN_at tab_renamed rfl]
  have h1 : biSorted (.dct [.inr "q", .inr "y"] [.str "x", .str "q"]) m = .ok (.lst [.str "q", .str "y"], m) := by kernel_rfl
  have h2 : opIx (.dct [.inr "q", .inr "y"] [.str "x", .str "q"]) (.str "q") m = .ok (.str "x", m) := by kernel_rfl
  have h2' : opIx (.dct [.inr "q", .inr "y"] [.str "x", .str "q"]) (.str "y") m = .ok (.str "q", m) := by kernel_rfl
  have h3 := ren_turn (L := L) h2 ho
  have h3' := ren_turn (L := L) h2' ho2
  generalize D.dct [.inr "q", .inr "y"] [.str "x", .str "q"] = dn at h1 h3 h3'
  have h4 : forL (.nm 2) b_renamed_1 ⟨callN T.tab L n, L⟩ none [.str "q", .str "y"] [.str "q", .str "y"] [some t, some dn, none] m = .ok (.nx [some r2, some dn, some (.str "y")], m) := by
    rw [forL]
    show (if true then _ else _) = _
    rw [if_pos rfl]
    dsimp only [asgD, List.set]
    rw [h3, evb]
    dsimp only
    rw [forL]
    show (if true then _ else _) = _
    rw [if_pos rfl]
    dsimp only [asgD, List.set]
    rw [h3', evb]
    rfl
  refine fin_same ?_ hm hr
  unfold m_renamed
  simp only [ev, evd, evb, List.map_cons, List.map_nil, List.length_cons, List.length_nil, List.replicate, List.cons_append, List.nil_append, h1, h4]
end
end K05

set_option maxHeartbeats 4000000
/-! K05w: _law_bare, _law_put, _law_alike -/
namespace K05
open PySem Fp L2
theorem bindE_append {β : Nat → Nat → Nat} : ∀ {xs ys : List Str} {l : Nat} {E : Env}, bindE β (xs ++ ys) l E = bindE β ys (l + xs.length) (bindE β xs l E)
  | [], ys, l, E => by simp [bindE]
  | x :: xs, ys, l, E => by
    rw [List.cons_append, bindE, bindE, bindE_append, List.length_cons, show l + 1 + xs.length = l + (xs.length + 1) by omega]
/-- where a name stands among names -/
def plc (ρ : List Str) (x : Str) : List Nat := (List.range ρ.length).filter fun k => decide (ρ[k]? = some x)
theorem plc_snoc (ρ : List Str) (b x : Str) : plc (ρ ++ [b]) x = plc ρ x ++ if b = x then [ρ.length] else [] := by
  unfold plc
  rw [List.length_append, List.length_singleton, List.range_succ, List.filter_append]
  congr 1
  · refine List.filter_congr fun k hk => ?_
    rw [List.getElem?_append_left (List.mem_range.mp hk)]
  · by_cases h : b = x
    · simp [h]
    · simp [h]
theorem bare_env (ρ : List Str) : ∀ (x : Str) (d : Nat), bindE βi ρ 0 E0 x d = match (plc ρ x).getLast? with | none => .lf (.fv x) | some j => .lf (.bv (d - 1 - j)) := by
  have go : ∀ (N : Nat) (ρ : List Str), ρ.length = N → ∀ (x : Str) (d : Nat), bindE βi ρ 0 E0 x d = match (plc ρ x).getLast? with | none => .lf (.fv x) | some j => .lf (.bv (d - 1 - j)) := by
    intro N
    induction N with
    | zero =>
      intro ρ e x d
      rw [List.length_eq_zero_iff.mp e]
      rfl
    | succ N ih =>
    intro ρ' e x d
    rcases List.eq_nil_or_concat ρ' with rfl | ⟨ρ, b, rfl⟩
    · cases e
    rw [List.concat_eq_append] at e ⊢
    have ih := ih ρ (by rw [List.length_append, List.length_singleton] at e; omega)
    rw [bindE_append, plc_snoc]
    show (if x = b then Tr.lf (.bv (βi (0 + ρ.length) d)) else bindE βi ρ 0 E0 x d) = _
    by_cases h : x = b
    · rw [if_pos h, if_pos h.symm]
      simp [βi]
    · rw [if_neg h, if_neg fun q => h q.symm, List.append_nil]
      exact ih x d
  exact go ρ.length ρ rfl
theorem comp_ix {α : Type} {f : D → Mem → Fp.R (List D × Mem)} {all : List D} {m : Mem} {xs : List α} {F : α → D} (h : ∀ pre x rest, xs = pre ++ x :: rest → f (.int (pre.length : Int)) m = .ok ([F x], m)) : compL f none all (upto 0 xs.length) m = .ok (xs.map F, m) := by
  have go : ∀ (rest pre : List α), xs = pre ++ rest → compL f none all ((List.range' pre.length rest.length).map fun (k : Nat) => D.int (k : Int)) m = .ok (rest.map F, m) := by
    intro rest
    induction rest with
    | nil => intro pre e; rfl
    | cons x rest ih =>
      intro pre e
      rw [List.length_cons, List.range'_succ, List.map_cons, compL]
      show (if true then _ else _) = _
      rw [if_pos rfl, h pre x rest e, R.bind_ok]
      dsimp only
      have := ih (pre ++ [x]) (by rw [e]; simp)
      rw [List.length_append, List.length_singleton] at this
      rw [this, R.bind_ok]
      rfl
  have e : upto 0 xs.length = (List.range' 0 xs.length).map (fun (k : Nat) => D.int (k : Int)) := by
    have := upto_from 0 xs.length 0
    rw [show ((0 : Int) + ((0 : Nat) : Int)) = 0 from rfl] at this
    rw [← this]
    refine List.map_congr_left fun k _ => ?_
    rw [Int.zero_add]
  rw [e]
  exact go xs [] rfl
section
variable {L n : Nat} {m : Mem} {o : Str → List D → Mem → RD}
theorem ints_pl (xs : List Nat) : plD 64 (.lst (xs.map fun (k : Nat) => D.int (0 + (k : Int)))) = true := by
  rw [plD]
  refine pls_all fun d hd => ?_
  obtain ⟨k, _, rfl⟩ := List.mem_map.mp hd
  rfl
theorem ix_last {ds : List D} {d : D} : opIx (.lst (ds ++ [d])) (.int (-1)) m = .ok (d, m) := by
  show (match atI (ds ++ [d]) (-1) with | some v => (R.ok (v, m) : RD) | none => R.bad) = _
  have : atI (ds ++ [d]) (-1) = some d := by
    unfold atI ixN
    rw [if_neg (by omega), if_pos (by rw [List.length_append, List.length_singleton]; omega)]
    rw [List.length_append, List.length_singleton]
    rw [show (-1 + ((ds.length + 1 : Nat) : Int)).toNat = ds.length by omega]
    show (ds ++ [d])[ds.length]? = some d
    rw [List.getElem?_append_right (Nat.le_refl _), Nat.sub_self]
    rfl
  rw [this]
theorem ix_encs {ρ : List Str} {k : Nat} {x : Str} (h : ρ[k]? = some x) : opIx (encs ρ) (.int (k : Int)) m = .ok (.str x, m) := by
  unfold encs
  rw [Fp.ix_tup, List.getElem?_map, h]
  rfl
theorem bare_var {ρ : List Str} {x : Str} (hm : Cl m) (hρ : ∀ y ∈ ρ, PyData.strOk y = true) (hx : PyData.strOk x = true) (hl : ρ.length ≤ 10000) : callN T.tab L (n + 1) "_law_bare" [enc (.var x), encs ρ] m = .ok (encT (bindE βi ρ 0 E0 x ρ.length), m) := by
  have hLIM : LIM = 16777216 := rfl
  rw [callN_at tab__law_bare rfl]
  have hlen : ∀ m, biLen (encs ρ) m = .ok (.int (ρ.length : Int), m) := fun m => by
    show R.ok (D.int ((ρ.map D.str).length : Int), m) = _
    rw [List.length_map]
  have hR := ran_ok (a := sCons (sApp (one biLen) (sCons (sVar 1) sNil)) sNil) (c := ⟨callN T.tab L n, L⟩) (ρ := [some (enc (.var x)), some (encs ρ), none, none, none, none, none, none]) (m := m) (m' := m) (k := ρ.length) (by simp only [ev, evd, evb, hlen]) (by omega)
  have hC : compL (Fp.compTurn (.nm 6) (stCmp cpEq (sOp opIx (sVar 1) (sVar 6)) (sOp opIx (sVar 0) (sK (.int 1)))) (sVar 6) ⟨callN T.tab L n, L⟩ (wipeD [some (enc (.var x)), some (encs ρ), none, none, none, none, none, none] [6])) none (upto 0 ρ.length) (upto 0 ρ.length) m =
      .ok ((plc ρ x).map fun (k : Nat) => D.int (0 + (k : Int)), m) := by
    refine compL_filter (g := fun (k : Nat) => D.int (0 + (k : Int))) (p := fun k => decide (ρ[k]? = some x)) fun k hk => ?_
    have hk := List.mem_range.mp hk
    have e1 := ix_encs (m := m) (List.getElem?_eq_getElem hk)
    have e2 := cpEq_str (m := m) (hρ _ (List.getElem_mem hk)) hx
    rw [show (0 : Int) + (k : Int) = (k : Int) by omega]
    unfold Fp.compTurn
    rw [List.getElem?_eq_getElem hk]
    generalize ρ[k] = y at e1 e2 ⊢
    by_cases q : y = x
    · rw [show (y == x) = true by simp [q]] at e2
      simp only [asgD, wipeD, ev, evd, evb, enc_shapes, e1, e2]
      simp [q]
    · rw [show (y == x) = false by simp [q]] at e2
      simp only [asgD, wipeD, ev, evd, evb, enc_shapes, e1, e2]
      simp [q]
  have hpl : (plc ρ x).length ≤ ρ.length := by
    unfold plc
    have := List.length_filter_le (fun k => decide (ρ[k]? = some x)) (List.range ρ.length)
    rwa [List.length_range] at this
  have hM := mkL_lst (m := m) (ds := (plc ρ x).map fun (k : Nat) => D.int (0 + (k : Int))) (by rw [List.length_map]; omega)
  have hne := cpNe_pl (m := m) (ints_pl (plc ρ x)) (e := .lst []) rfl
  rw [show eqDb (.lst ((plc ρ x).map fun (k : Nat) => D.int (0 + (k : Int)))) (.lst []) = ((plc ρ x).map fun (k : Nat) => D.int (0 + (k : Int))).isEmpty from eqDs_nil] at hne
  have hng : ∀ m, opNeg (.int 1) m = .ok (.int (-1), m) := fun _ => rfl
  rw [bare_env]
  rcases List.eq_nil_or_concat (plc ρ x) with e | ⟨ks, j, e⟩
  · rw [e] at hC hM hne ⊢
    rw [List.map_nil] at hC hM hne
    rw [List.isEmpty_nil] at hne
    refine fin_same ?_ hm (refs_enc (.var x))
    unfold m__law_bare
    simp only [ev, evd, evb, List.map_cons, List.map_nil, List.length_cons, List.length_nil, List.replicate, List.cons_append, List.nil_append, enc_shapes, wds, hlen] at hR hC ⊢
    simp only [ev, evd, evb, hR, hC, hM, hne]
    rfl
  · rw [List.concat_eq_append] at e
    have hj : j < ρ.length := by
      have : j ∈ plc ρ x := by rw [e]; simp
      unfold plc at this
      exact List.mem_range.mp (List.mem_filter.mp this).1
    rw [e] at hC hM hne ⊢
    rw [show ((ks ++ [j]).map fun (k : Nat) => D.int (0 + (k : Int))) = (ks.map fun (k : Nat) => D.int (0 + (k : Int))) ++ [D.int (0 + (j : Int))] by rw [List.map_append]; rfl] at hC hM hne
    rw [show ((ks.map fun (k : Nat) => D.int (0 + (k : Int))) ++ [D.int (0 + (j : Int))]).isEmpty = false by cases ks <;> rfl] at hne
    have hla := ix_last (m := m) (ds := ks.map fun (k : Nat) => D.int (0 + (k : Int))) (d := .int (0 + (j : Int)))
    rw [List.getLast?_append, List.getLast?_singleton, Option.some_or]
    dsimp only
    rw [show encT (.lf (.bv (ρ.length - 1 - j))) = .tup [.str "var", .int ((ρ.length : Int) - 1 - (0 + (j : Int)))] by
      rw [encT_shapes.2.2.2.2.2.2.2.2.2]
      rw [show ((ρ.length - 1 - j : Nat) : Int) = (ρ.length : Int) - 1 - (0 + (j : Int)) by omega]]
    refine fin_same ?_ hm rfl
    unfold m__law_bare
    simp only [ev, evd, evb, List.map_cons, List.map_nil, List.length_cons, List.length_nil, List.replicate, List.cons_append, List.nil_append, enc_shapes, wds, hlen] at hR hC ⊢
    simp only [ev, evd, evb, hR, hC, hM, hne, hla, hng, hlen]
theorem bare_ok : ∀ (h : Nat) {t : Tm}, WF t → Sok t → ht t ≤ h → ∀ {n : Nat} {M : Mem} {ρ : List Str}, h + 4 ≤ n → Cl M → (∀ y ∈ ρ, PyData.strOk y = true) → ρ.length + 2 * h ≤ 1000 →
    callN T.tab L n "_law_bare" [enc t, encs ρ] M = .ok (encT (den βi t (bindE βi ρ 0 E0) ρ.length), M) := by
  intro h
  induction h using Nat.strongRecOn with
  | ind h ih =>
    intro t hw hs hh n m ρ hn hm hρ hl
    obtain ⟨n, rfl⟩ : ∃ k, n = k + 1 := ⟨n - 1, by omega⟩
    cases t with
    | nil => cases hw
    | var x => exact bare_var hm hρ (sok_var.mp hs) (by omega)
    | nd w a b bs c =>
      rw [callN_at tab__law_bare rfl]
      obtain ⟨hw1, hw2, hw3⟩ := word_nd (m := m) hw
      obtain ⟨hn1, hn2⟩ := word_no hw
      have hp := lparts_ok (L := L) (n := n - 1) (m := m) hw hm
      have hb := lbinds_ok (L := L) (n := n - 2) (m := m) hw hm
      rw [show n - 1 + 1 = n by omega] at hp
      rw [show n - 2 + 2 = n by omega] at hb
      have hrw := rows_wf2 hw
      have hrk := rows_sok hw hs
      have hr3 := rows_cnt hw
      have hrb := rows_bs hw
      have hbk := (sok_nd.mp hs).1
      have hb2 := wf_bs hw
      rw [encT_den hw]
      have hr2 : ∀ r ∈ rows (.nd w a b bs c), r.2.length ≤ 2 ∧ ∀ y ∈ r.2, PyData.strOk y = true := by
        intro r hr
        refine ⟨?_, fun y hy => hbk y ?_⟩
        · have h3 := congrArg List.length hrb
          rw [List.length_flatten, List.map_map] at h3
          have := le_sum (List.mem_map.mpr ⟨r, hr, rfl⟩ : (List.length ∘ fun r : Tm × List Str => r.2) r ∈ (rows (.nd w a b bs c)).map (List.length ∘ fun r => r.2))
          simp only [Function.comp] at this h3
          omega
        · rw [← hrb]
          exact List.mem_flatten.mpr ⟨r.2, List.mem_map.mpr ⟨r, hr, rfl⟩, hy⟩
      have hrf : refsB 0 (D.tup [.str w, .str emS, .tup ((rows (.nd w a b bs c)).map fun r => .int (r.2.length : Int)), .tup ((rows (.nd w a b bs c)).map fun r => encT (den βi r.1 (bindE βi r.2 ρ.length (bindE βi ρ 0 E0)) (ρ.length + r.2.length)))]) = true := by
        simp only [refsB, refsBs, Bool.and_true, Bool.true_and, Bool.and_eq_true]
        refine ⟨refss_all fun x hx => ?_, refss_all fun x hx => ?_⟩
        · obtain ⟨r, _, rfl⟩ := List.mem_map.mp hx
          rfl
        · obtain ⟨r, _, rfl⟩ := List.mem_map.mp hx
          exact refs_encT _
      unfold partsD at hp
      unfold bindsD at hb
      generalize rows (.nd w a b bs c) = rs at hp hb hrw hrk hr3 hr2 hrf ⊢
      generalize enc (.nd w a b bs c) = te at hp hb hw1
      have hC1 := comp_map (c := ⟨callN T.tab L n, L⟩) (ρ := [some te, some (encs ρ), some (.str emS), none, some (.tup (rs.map fun r => enc r.1)), some (.tup (rs.map fun r => encs r.2)), none, none]) (i := 7) (all := rs.map fun r => encs r.2) (m := m) (e := sApp (one biLen) (sCons (sVar 7) sNil)) (g := fun r : Tm × List Str => encs r.2) (f := fun r => D.int (r.2.length : Int)) (xs := rs) (fun r _ => by
        have : ∀ m, biLen (encs r.2) m = .ok (.int (r.2.length : Int), m) := fun m => by
          show R.ok (D.int ((r.2.map D.str).length : Int), m) = _
          rw [List.length_map]
        simp only [ev, evd, evb, this])
      have hR := ran_ok (a := sCons (sApp (one biLen) (sCons (sVar 4) sNil)) sNil) (c := ⟨callN T.tab L n, L⟩) (ρ := [some te, some (encs ρ), some (.str emS), none, some (.tup (rs.map fun r => enc r.1)), some (.tup (rs.map fun r => encs r.2)), none, none]) (m := m) (m' := m) (k := rs.length) (by simp only [ev, evd, evb, List.length_map]) (by omega)
      have hC2 := comp_ix (f := Fp.compTurn (.nm 6) stYes (sCall ("_law_bare" : Str) (sCons (sOp opIx (sVar 4) (sVar 6)) (sCons (sOp opAdd (sVar 1) (sOp opIx (sVar 5) (sVar 6))) sNil))) ⟨callN T.tab L n, L⟩ (wipeD [some te, some (encs ρ), some (.str emS), none, some (.tup (rs.map fun r => enc r.1)), some (.tup (rs.map fun r => encs r.2)), none, none] [6]))
        (all := upto 0 rs.length) (m := m) (xs := rs) (F := fun r => encT (den βi r.1 (bindE βi r.2 ρ.length (bindE βi ρ 0 E0)) (ρ.length + r.2.length))) (fun pre r rest e => by
          have hx : r ∈ rs := by rw [e]; simp
          have e1 := ix_mid (m := m) (f := fun r : Tm × List Str => enc r.1) e
          have e2 := ix_mid (m := m) (f := fun r : Tm × List Str => encs r.2) e
          have h2 := hr2 r hx
          have hlt := (hrw r hx).2
          have e3 := add_encs (m := m) (xs := ρ) (ys := r.2) (by omega)
          have e4 := ih (ht r.1) (by omega) (hrw r hx).1 (hrk r hx) (Nat.le_refl _) (n := n) (M := m) (ρ := ρ ++ r.2) (by omega) hm (fun y hy => (List.mem_append.mp hy).elim (hρ y) (h2.2 y)) (by rw [List.length_append]; omega)
          rw [bindE_append, List.length_append, Nat.zero_add] at e4
          unfold Fp.compTurn
          generalize (rs.map fun r => enc r.1) = P at e1 ⊢
          generalize (rs.map fun r => encs r.2) = B at e2 ⊢
          simp only [asgD, wipeD, ev, evd, evb, e1, e2, e3, e4]
          rfl)
      have hM1 := mkL_lst (m := m) (ds := rs.map fun r => D.int (r.2.length : Int)) (by rw [List.length_map]; have : LIM = 16777216 := rfl; omega)
      have hM2 := mkL_lst (m := m) (ds := rs.map fun r => encT (den βi r.1 (bindE βi r.2 ρ.length (bindE βi ρ 0 E0)) (ρ.length + r.2.length))) (by rw [List.length_map]; have : LIM = 16777216 := rfl; omega)
      have hem : (D.str ("" : Str)) = .str emS := rfl
      refine fin_same ?_ hm hrf
      generalize (rs.map fun r => encT (den βi r.1 (bindE βi r.2 ρ.length (bindE βi ρ 0 E0)) (ρ.length + r.2.length))) = R2 at hC2 hM2 ⊢
      generalize (rs.map fun r => D.int (r.2.length : Int)) = R1 at hC1 hM1 ⊢
      unfold m__law_bare
      simp only [ev, evd, evb, List.map_cons, List.map_nil, List.length_cons, List.length_nil, List.replicate, List.cons_append, List.nil_append, hw1, hw2, hw3, wds, hp, hb, hn1, hn2, hem, hC1, hR, hC2, hM1, hM2]
theorem bare0_ok {t : Tm} (hw : WF t) (hs : Sok t) (hh : ht t ≤ 20) {n : Nat} (hn : 24 ≤ n) (hm : Cl m) : callN T.tab L n "_law_bare" [enc t, .tup []] m = .ok (encT (bare t), m) :=
  bare_ok 20 hw hs hh (n := n) (M := m) (ρ := []) (by omega) hm (fun y hy => by cases hy) (by simp)
theorem bare_pl {t : Tm} (hw : WF t) (hs : Sok t) (hh : ht t ≤ 20) : plD 64 (encT (bare t)) = true := pl_mono (by omega) (encT_pl (β := βi) 20 hw hs hh (E := E0) (d := 0) pl_E0)
theorem alike_ok {t u : Tm} (hw : WF t) (hw' : WF u) (hs : Sok t) (hs' : Sok u) (hh : ht t ≤ 20) (hh' : ht u ≤ 20) {n : Nat} (hn : 30 ≤ n) (hm : Cl m) : callN T.tab L n "_law_alike" [enc t, enc u] m = .ok (.bl (alk t u), m) := by
  obtain ⟨n, rfl⟩ : ∃ k, n = k + 1 := ⟨n - 1, by omega⟩
  rw [callN_at tab__law_alike rfl]
  have h1 := bare0_ok (L := L) hw hs hh (n := n) (by omega) hm
  have h2 := bare0_ok (L := L) hw' hs' hh' (n := n) (by omega) hm
  have h3 := cpEq_pl (m := m) (bare_pl hw hs hh) (bare_pl hw' hs' hh')
  unfold alk
  refine fin_same ?_ hm rfl
  unfold m__law_alike
  simp only [ev, evd, evb, List.map_cons, List.map_nil, List.length_cons, List.length_nil, List.replicate, List.cons_append, List.nil_append, h1, h2, h3]
/-- leaves alone, of names that are told -/
def LE (E : Env) : Prop := ∀ y, PyData.strOk y = true → ∀ d, (∃ z, PyData.strOk z = true ∧ E y d = .lf (.fv z)) ∨ ∃ k, E y d = .lf (.bv k)
theorem LE.bind {β : Nat → Nat → Nat} : ∀ {bs : List Str} {l : Nat} {E : Env}, LE E → LE (bindE β bs l E)
  | [], _, _, h => h
  | b :: bs, l, E, h => by
    unfold bindE
    refine LE.bind fun y hy d => ?_
    split
    · exact .inr ⟨_, rfl⟩
    · exact h y hy d
theorem put_ok' {x : Str} {O : Tr} (hx : PyData.strOk x = true) : ∀ (h : Nat) {t : Tm}, WF t → Sok t → ht t ≤ h → ∀ {n : Nat} {M : Mem} {E : Env} {d : Nat}, h + 1 ≤ n → Cl M → LE E →
    callN T.tab L n "_law_put" [encT (den βi t E d), .str x, encT O, .int 0] M = .ok (encT (den βi t (fun y d => putT x O (E y d)) d), M) := by
  intro h
  induction h using Nat.strongRecOn with
  | ind h ih =>
    intro t hw hs hh n m E d hn hm hE
    obtain ⟨n, rfl⟩ : ∃ k, n = k + 1 := ⟨n - 1, by omega⟩
    rw [callN_at tab__law_put rfl]
    cases t with
    | nil => cases hw
    | var y =>
      refine fin_same ?_ hm (refs_encT _)
      rw [den, den]
      rcases hE y (sok_var.mp hs) d with ⟨z, hz, e⟩ | ⟨k, e⟩
      · rw [e]
        have e0 := cpEq_str (m := m) hz hx
        unfold putT
        unfold m__law_put
        by_cases q : z = x
        · rw [if_pos q]
          rw [show (z == x) = true by simp [q]] at e0
          simp only [ev, evd, evb, List.map_cons, List.map_nil, List.length_cons, List.length_nil, List.replicate, List.cons_append, List.nil_append, encT_shapes, wds, e0]
        · rw [if_neg q]
          rw [show (z == x) = false by simp [q]] at e0
          simp only [ev, evd, evb, List.map_cons, List.map_nil, List.length_cons, List.length_nil, List.replicate, List.cons_append, List.nil_append, encT_shapes, wds, e0]
      · rw [e]
        have e0 := cpEq_pl (m := m) (d := .int (k : Int)) (e := .str x) rfl hx
        rw [show eqDb (.int (k : Int)) (.str x) = false from rfl] at e0
        unfold putT
        unfold m__law_put
        simp only [ev, evd, evb, List.map_cons, List.map_nil, List.length_cons, List.length_nil, List.replicate, List.cons_append, List.nil_append, encT_shapes, wds, e0]
    | nd w a b bs c =>
      obtain ⟨_, hw2, hw3⟩ := word_nd (m := m) hw
      have hrw := rows_wf2 hw
      have hrk := rows_sok hw hs
      have hr3 := rows_cnt hw
      refine fin_same ?_ hm (refs_encT _)
      rw [encT_den hw, encT_den hw]
      have hfun : ∀ r : Tm × List Str, bindE βi r.2 d (fun y d => putT x O (E y d)) = fun y d' => putT x O (bindE βi r.2 d E y d') := fun r => by
        funext y d'
        exact bindE_put
      simp only [hfun]
      generalize rows (.nd w a b bs c) = rs at hrw hrk hr3 ⊢
      have hC := comp_map (c := ⟨callN T.tab L n, L⟩) (ρ := [some (.tup [.str w, .str emS, .tup (rs.map fun r => .int (r.2.length : Int)), .tup (rs.map fun r => encT (den βi r.1 (bindE βi r.2 d E) (d + r.2.length)))]), some (.str x), some (encT O), some (.int 0), none]) (i := 4)
        (all := rs.map fun r => encT (den βi r.1 (bindE βi r.2 d E) (d + r.2.length))) (m := m) (e := sCall ("_law_put" : Str) (sCons (sVar 4) (sCons (sVar 1) (sCons (sVar 2) (sCons (sVar 3) sNil))))) (g := fun r : Tm × List Str => encT (den βi r.1 (bindE βi r.2 d E) (d + r.2.length)))
        (f := fun r => encT (den βi r.1 (fun y d' => putT x O (bindE βi r.2 d E y d')) (d + r.2.length))) (xs := rs) (fun r hr => by
          have h1 := ih (ht r.1) (by have := (hrw r hr).2; omega) (hrw r hr).1 (hrk r hr) (Nat.le_refl _) (n := n) (M := m) (E := bindE βi r.2 d E) (d := d + r.2.length) (by have := (hrw r hr).2; omega) hm hE.bind
          simp only [ev, evd, evb, h1])
      have hM := mkL_lst (m := m) (ds := rs.map fun r => encT (den βi r.1 (fun y d' => putT x O (bindE βi r.2 d E y d')) (d + r.2.length))) (by rw [List.length_map]; have : LIM = 16777216 := rfl; omega)
      generalize (rs.map fun r => encT (den βi r.1 (fun y d' => putT x O (bindE βi r.2 d E y d')) (d + r.2.length))) = R2 at hC hM ⊢
      generalize (rs.map fun r => encT (den βi r.1 (bindE βi r.2 d E) (d + r.2.length))) = R0 at hC ⊢
      generalize (rs.map fun r => D.int (r.2.length : Int)) = R1 at hC ⊢
      have hsl : ∀ a b c d : D, opSl (.tup [a, b, c, d]) none (some 3) m = .ok (.tup [a, b, c], m) := fun a b c d => by kernel_rfl
      have had := add_tup (m := m) (xs := [.str w, .str emS, .tup R1]) (ys := [.tup R2]) (by simp [LIM])
      unfold m__law_put
      simp only [ev, evd, evb, List.map_cons, List.map_nil, List.length_cons, List.length_nil, List.replicate, List.cons_append, List.nil_append, hw2, hw3, wds, hsl, hC, hM, had]
theorem LE_E0 : LE E0 := fun y hy d => .inl ⟨y, hy, rfl⟩
theorem put0_ok {x : Str} {t : Tm} {O : Tr} (hx : PyData.strOk x = true) (hw : WF t) (hs : Sok t) (hh : ht t ≤ 20) {n : Nat} (hn : 24 ≤ n) (hm : Cl m) : callN T.tab L n "_law_put" [encT (bare t), .str x, encT O, .int 0] m = .ok (encT (putT x O (bare t)), m) := by
  have := put_ok' (L := L) (O := O) hx 20 hw hs hh (n := n) (M := m) (E := E0) (d := 0) (by omega) hm LE_E0
  rw [den_put] at this
  exact this
end
end K05

set_option maxHeartbeats 4000000
/-! K05x: the law's draws and terms -/
namespace K05
open PySem Fp L2
theorem nums :
    (∀ m, cpIn (.int 0) (.tup [.int 0, .int 1]) m = some true) ∧
    (∀ m, cpIn (.int 0) (.tup [.int 5, .int 6]) m = some false) ∧
    (∀ m, cpEq (.int 0) (.int 2) m = some false) ∧
    (∀ m, cpEq (.int 0) (.int 3) m = some false) ∧
    (∀ m, cpEq (.int 0) (.int 4) m = some false) ∧
    (∀ m, cpEq (.int 0) (.int 7) m = some false) ∧
    (∀ m, cpIn (.int 1) (.tup [.int 0, .int 1]) m = some true) ∧
    (∀ m, cpIn (.int 1) (.tup [.int 5, .int 6]) m = some false) ∧
    (∀ m, cpEq (.int 1) (.int 2) m = some false) ∧
    (∀ m, cpEq (.int 1) (.int 3) m = some false) ∧
    (∀ m, cpEq (.int 1) (.int 4) m = some false) ∧
    (∀ m, cpEq (.int 1) (.int 7) m = some false) ∧
    (∀ m, cpIn (.int 2) (.tup [.int 0, .int 1]) m = some false) ∧
    (∀ m, cpIn (.int 2) (.tup [.int 5, .int 6]) m = some false) ∧
    (∀ m, cpEq (.int 2) (.int 2) m = some true) ∧
    (∀ m, cpEq (.int 2) (.int 3) m = some false) ∧
    (∀ m, cpEq (.int 2) (.int 4) m = some false) ∧
    (∀ m, cpEq (.int 2) (.int 7) m = some false) ∧
    (∀ m, cpIn (.int 3) (.tup [.int 0, .int 1]) m = some false) ∧
    (∀ m, cpIn (.int 3) (.tup [.int 5, .int 6]) m = some false) ∧
    (∀ m, cpEq (.int 3) (.int 2) m = some false) ∧
    (∀ m, cpEq (.int 3) (.int 3) m = some true) ∧
    (∀ m, cpEq (.int 3) (.int 4) m = some false) ∧
    (∀ m, cpEq (.int 3) (.int 7) m = some false) ∧
    (∀ m, cpIn (.int 4) (.tup [.int 0, .int 1]) m = some false) ∧
    (∀ m, cpIn (.int 4) (.tup [.int 5, .int 6]) m = some false) ∧
    (∀ m, cpEq (.int 4) (.int 2) m = some false) ∧
    (∀ m, cpEq (.int 4) (.int 3) m = some false) ∧
    (∀ m, cpEq (.int 4) (.int 4) m = some true) ∧
    (∀ m, cpEq (.int 4) (.int 7) m = some false) ∧
    (∀ m, cpIn (.int 5) (.tup [.int 0, .int 1]) m = some false) ∧
    (∀ m, cpIn (.int 5) (.tup [.int 5, .int 6]) m = some true) ∧
    (∀ m, cpEq (.int 5) (.int 2) m = some false) ∧
    (∀ m, cpEq (.int 5) (.int 3) m = some false) ∧
    (∀ m, cpEq (.int 5) (.int 4) m = some false) ∧
    (∀ m, cpEq (.int 5) (.int 7) m = some false) ∧
    (∀ m, cpIn (.int 6) (.tup [.int 0, .int 1]) m = some false) ∧
    (∀ m, cpIn (.int 6) (.tup [.int 5, .int 6]) m = some true) ∧
    (∀ m, cpEq (.int 6) (.int 2) m = some false) ∧
    (∀ m, cpEq (.int 6) (.int 3) m = some false) ∧
    (∀ m, cpEq (.int 6) (.int 4) m = some false) ∧
    (∀ m, cpEq (.int 6) (.int 7) m = some false) ∧
    (∀ m, cpIn (.int 7) (.tup [.int 0, .int 1]) m = some false) ∧
    (∀ m, cpIn (.int 7) (.tup [.int 5, .int 6]) m = some false) ∧
    (∀ m, cpEq (.int 7) (.int 2) m = some false) ∧
    (∀ m, cpEq (.int 7) (.int 3) m = some false) ∧
    (∀ m, cpEq (.int 7) (.int 4) m = some false) ∧
    (∀ m, cpEq (.int 7) (.int 7) m = some true) ∧
    (∀ m, cpIn (.int 8) (.tup [.int 0, .int 1]) m = some false) ∧
    (∀ m, cpIn (.int 8) (.tup [.int 5, .int 6]) m = some false) ∧
    (∀ m, cpEq (.int 8) (.int 2) m = some false) ∧
    (∀ m, cpEq (.int 8) (.int 3) m = some false) ∧
    (∀ m, cpEq (.int 8) (.int 4) m = some false) ∧
    (∀ m, cpEq (.int 8) (.int 7) m = some false) :=
  ⟨fun _ => by kernel_rfl, fun _ => by kernel_rfl, fun _ => by kernel_rfl, fun _ => by kernel_rfl, fun _ => by kernel_rfl, fun _ => by kernel_rfl, fun _ => by kernel_rfl, fun _ => by kernel_rfl, fun _ => by kernel_rfl, fun _ => by kernel_rfl, fun _ => by kernel_rfl, fun _ => by kernel_rfl, fun _ => by kernel_rfl, fun _ => by kernel_rfl, fun _ => by kernel_rfl, fun _ => by kernel_rfl, fun _ => by kernel_rfl, fun _ => by kernel_rfl, fun _ => by kernel_rfl, fun _ => by kernel_rfl, fun _ => by kernel_rfl, fun _ => by kernel_rfl, fun _ => by kernel_rfl, fun _ => by kernel_rfl, fun _ => by kernel_rfl, fun _ => by kernel_rfl, fun _ => by kernel_rfl, fun _ => by kernel_rfl, fun _ => by kernel_rfl, fun _ => by kernel_rfl, fun _ => by kernel_rfl, fun _ => by kernel_rfl, fun _ => by kernel_rfl, fun _ => by kernel_rfl, fun _ => by kernel_rfl, fun _ => by kernel_rfl, fun _ => by kernel_rfl, fun _ => by kernel_rfl, fun _ => by kernel_rfl, fun _ => by kernel_rfl, fun _ => by kernel_rfl, fun _ => by kernel_rfl, fun _ => by kernel_rfl, fun _ => by kernel_rfl, fun _ => by kernel_rfl, fun _ => by kernel_rfl, fun _ => by kernel_rfl, fun _ => by kernel_rfl, fun _ => by kernel_rfl, fun _ => by kernel_rfl, fun _ => by kernel_rfl, fun _ => by kernel_rfl, fun _ => by kernel_rfl, fun _ => by kernel_rfl⟩

section
variable {L n : Nat} {m : Mem} {o : Str → List D → Mem → RD}
theorem ix_items {d v : D} {ds : List D} {k : Nat} (h : itemsD d m = some ds) (hv : ds[k]? = some v) : opIx d (.int (k : Int)) m = .ok (v, m) := by
  have e : ∀ q, itemsD q m = some ds → opIx q (.int (k : Int)) m = (match atI ds (k : Int) with | some v => (Fp.R.ok (v, m) : RD) | none => Fp.R.bad) := by
    intro q hq
    cases q with
    | str x => cases hq
    | _ => unfold opIx; (simp only [hq]) <;> (try rfl)
  rw [e d h, Fp.atI_nat, hv]
theorem log_lt {a : Nat} (h : a < 2 ^ 20) : a.log2 < 20 := by
  by_cases h0 : a = 0
  · rw [h0]
    decide
  · exact (Nat.log2_lt h0).mpr h
theorem mul_ok {a b : Int} (ha : a.natAbs < 2 ^ 20) (hb : b.natAbs < 2 ^ 20) : opMul (.int a) (.int b) m = .ok (.int (a * b), m) := by
  have h1 := log_lt ha
  have h2 := log_lt hb
  unfold opMul
  dsimp only
  rw [if_pos (by omega)]
theorem mod_ok {a b : Int} (hb : 0 < b) : opMod (.int a) (.int b) m = .ok (.int (a % b), m) := by
  unfold opMod
  dsimp only
  rw [if_pos hb]
theorem div997 {a : Int} : opDiv (.int a) (.int 997) m = .ok (.int (a / 997), m) := by
  unfold opDiv
  dsimp only
  rw [if_pos ⟨by omega, by decide +kernel⟩]
theorem pow1018 : opPow (.int 10) (.int 18) m = .ok (.int (10 ^ 18), m) := by
  unfold opPow
  dsimp only
  rw [if_pos ⟨by omega, by omega, by decide +kernel⟩]
  rfl
theorem app_ints {ds : List Int} {v : Int} (hl : ds.length ≤ 100000) : mAppend (.ref m.length) [.int v] (m ++ [.lst (ds.map D.int)]) = .ok (.non, m ++ [.lst ((ds ++ [v]).map D.int)]) := by
  rw [app_ref (own_get0 (m := m) (l := [Ob.lst (ds.map D.int)])) (by rw [List.length_map]; have : LIM = 16777216 := rfl; omega), own_set0, List.map_append]
  rfl
theorem isL_ints {ds : List Int} : isL (.ref m.length) (m ++ [.lst (ds.map D.int)]) = true := isL_ref (own_get0 (m := m) (l := [Ob.lst (ds.map D.int)]))
/-- a walk over range(n), by how many turns are left -/
theorem forL_cnt {t : Tgt} {b : SS} {c : Cxt} {all : List D} {N : Nat} {E : Nat → EnvD → Mem → Prop}
    (hs : ∀ k j ρ m, k < N → E (j + 1) ρ m → ∃ ρ1 ρ2 m2, asgD t (.int (k : Int)) ρ = some ρ1 ∧ b c ρ1 m = .ok (.nx ρ2, m2) ∧ E j ρ2 m2)
    {ρ : EnvD} {m : Mem} (h : E N ρ m) : ∃ ρ' m', forL t b c none all (upto 0 N) ρ m = .ok (.nx ρ', m') ∧ E 0 ρ' m' := by
  have go := forL_rest (t := t) (b := b) (c := c) (all := all) (g := fun (k : Nat) => D.int (0 + (k : Int))) (E := fun rest ρ m => (∀ k ∈ rest, k < N) ∧ E rest.length ρ m)
    (fun k rest ρ m hE => by
      obtain ⟨ρ1, ρ2, m2, h1, h2, h3⟩ := hs k rest.length ρ m (hE.1 k List.mem_cons_self) hE.2
      refine ⟨ρ1, ρ2, m2, ?_, .inl h2, fun j hj => hE.1 j (List.mem_cons_of_mem _ hj), h3⟩
      rw [Int.zero_add]
      exact h1)
    (xs := List.range N) (ρ := ρ) (m := m) ⟨fun k hk => List.mem_range.mp hk, by rw [List.length_range]; exact h⟩
  obtain ⟨ρ', m', h1, h2⟩ := go
  exact ⟨ρ', m', h1, h2.2⟩
theorem rest_turn {d0 d1 d3 d4 d5 d7 : D} {rest : Int} {ds : List Int} (hl : ds.length ≤ 100000) : ∃ (rest' : Int) (ds' : List Int), b__law_draws_2 ⟨o, L⟩ [some d0, some d1, some (.ref m.length), some d3, some d4, some d5, some (.int rest), some d7] (m ++ [.lst (ds.map D.int)]) =
      .ok (.nx [some d0, some d1, some (.ref m.length), some d3, some d4, some d5, some (.int rest'), some d7], m ++ [.lst (ds'.map D.int)]) ∧ ds'.length ≤ ds.length + 1 := by
  unfold b__law_draws_2
  have hi : ∀ (i : Int) m, biInt (.int i) m = .ok (.int i, m) := fun _ _ => rfl
  have hmod : ∀ m, opMod (.int rest) (.int 997) m = .ok (.int (rest % 997), m) := fun m => mod_ok (by omega)
  have hL := isL_ints (m := m) (ds := ds)
  have hA := app_ints (m := m) (ds := ds) (v := rest % 997) hl
  have hD := div997 (m := m ++ [.lst ((ds ++ [rest % 997]).map D.int)]) (a := rest)
  by_cases h : 0 < rest
  · refine ⟨rest / 997, ds ++ [rest % 997], ?_, by rw [List.length_append]; exact Nat.le_refl _⟩
    have e : decide (0 < rest) = true := decide_eq_true h
    simp only [ev, evd, evb, e, hL, if_true, hi, hmod, hA, hD]
  · refine ⟨rest, ds, ?_, Nat.le_succ _⟩
    have e : decide (0 < rest) = false := decide_eq_false h
    simp only [ev, evd, evb, e]
theorem draw_turn {d : D} {d1 : D} {o5 o6 o7 : Option D} {ns : List Int} {k : Nat} {mixed : Int} {ds : List Int} (hd : ∀ m, itemsD d m = some (ns.map D.int)) (hk : k < ns.length) (hk2 : k ≤ 100) (hmx : 0 ≤ mixed ∧ mixed < 65537) (hl : ds.length ≤ 50000) :
    ∃ (mixed' : Int) (ds' : List Int) (o5' o6' o7' : Option D), b__law_draws_3 ⟨o, L⟩ [some d, some d1, some (.ref m.length), some (.int mixed), some (.int (k : Int)), o5, o6, o7] (m ++ [.lst (ds.map D.int)]) =
      .ok (.nx [some d, some d1, some (.ref m.length), some (.int mixed'), some (.int (k : Int)), o5', o6', o7'], m ++ [.lst (ds'.map D.int)]) ∧ (0 ≤ mixed' ∧ mixed' < 65537) ∧ ds'.length ≤ ds.length + 62 := by
  have hi : ∀ (i : Int) m, biInt (.int i) m = .ok (.int i, m) := fun _ _ => rfl
  have hix : ∀ m, opIx d (.int (k : Int)) m = .ok (.int ns[k], m) := fun m => ix_items (hd m) (by rw [List.getElem?_map, List.getElem?_eq_getElem hk]; rfl)
  generalize hcell : (if ns[k] < 0 then -ns[k] else ns[k]) = cell
  have habs : ∀ m, biAbs (.int ns[k]) m = .ok (.int cell, m) := fun m => by rw [← hcell]; rfl
  have hm1 : ∀ m, opMul (.int mixed) (.int 48271) m = .ok (.int (mixed * 48271), m) := fun m => mul_ok (by omega) (by decide)
  have hm2 : ∀ m, opMod (.int cell) (.int 1000003) m = .ok (.int (cell % 1000003), m) := fun m => mod_ok (by omega)
  have hm3 : ∀ a m, opMod (.int a) (.int 65537) m = .ok (.int (a % 65537), m) := fun a m => mod_ok (by omega)
  have hm4 : ∀ a m, opMod (.int a) (.int 997) m = .ok (.int (a % 997), m) := fun a m => mod_ok (by omega)
  have hm5 : ∀ a m, opMod (.int a) (.int 65521) m = .ok (.int (a % 65521), m) := fun a m => mod_ok (by omega)
  generalize hmx' : (mixed * 48271 + cell % 1000003 + (k : Int)) % 65537 = mixed'
  have hb : 0 ≤ mixed' ∧ mixed' < 65537 := by omega
  have hm6 : ∀ m, opMul (.int mixed') (.int 69621) m = .ok (.int (mixed' * 69621), m) := fun m => mul_ok (by omega) (by decide)
  have hp : ∀ m, opPow (.int 10) (.int 18) m = .ok (.int (10 ^ 18), m) := fun m => pow1018
  have mid : ∃ (rest : Int) (ds1 : List Int), (ssIf (stCmp cpGe (sVar 5) (sOp opPow (sK (.int 10)) (sK (.int 18)))) (ssCons (ssSet (.nm 6) (sVar 5)) ssNil) (ssCons (ssExpr (sMeth isL mAppend (sVar 2) (sCons (sOp opMod (sApp (one biInt) (sCons (sVar 5) sNil)) (sK (.int 997))) sNil))) (ssCons (ssExpr (sMeth isL mAppend (sVar 2) (sCons (sOp opMod (sOp opMod (sApp (one biInt) (sCons (sOp opAdd (sOp opMul (sVar 3) (sK (.int 69621))) (sK (.int 5))) sNil)) (sK (.int 65521))) (sK (.int 997))) sNil))) ssNil)))
      ⟨o, L⟩ [some d, some d1, some (.ref m.length), some (.int mixed'), some (.int (k : Int)), some (.int cell), some (.int 0), o7] (m ++ [.lst (ds.map D.int)]) =
      .ok (.nx [some d, some d1, some (.ref m.length), some (.int mixed'), some (.int (k : Int)), some (.int cell), some (.int rest), o7], m ++ [.lst (ds1.map D.int)]) ∧ ds1.length ≤ ds.length + 2 := by
    by_cases h : (10 : Int) ^ 18 ≤ cell
    · refine ⟨cell, ds, ?_, by omega⟩
      have e : decide ((10 : Int) ^ 18 ≤ cell) = true := decide_eq_true h
      simp only [ev, evd, evb, hp, e]
    · refine ⟨0, ds ++ [cell % 997] ++ [(mixed' * 69621 + 5) % 65521 % 997], ?_, by rw [List.length_append, List.length_append]; exact Nat.le_refl _⟩
      have e : decide ((10 : Int) ^ 18 ≤ cell) = false := decide_eq_false h
      have hL := isL_ints (m := m) (ds := ds)
      have hA := app_ints (m := m) (ds := ds) (v := cell % 997) (by omega)
      have hL2 := isL_ints (m := m) (ds := ds ++ [cell % 997])
      have hA2 := app_ints (m := m) (ds := ds ++ [cell % 997]) (v := (mixed' * 69621 + 5) % 65521 % 997) (by rw [List.length_append, List.length_singleton]; omega)
      simp only [ev, evd, evb, hp, e, hL, if_true, hi, hm4, hA, hL2, hm6, hm5, hA2]
  obtain ⟨rest, ds1, hmid, hl1⟩ := mid
  have loop := forL_cnt (t := .nm 7) (b := b__law_draws_2) (c := ⟨o, L⟩) (all := upto 0 60) (N := 60)
    (E := fun j ρ M => ∃ (r : Int) (o7' : Option D) (ds2 : List Int), ρ = [some d, some d1, some (.ref m.length), some (.int mixed'), some (.int (k : Int)), some (.int cell), some (.int r), o7'] ∧ M = m ++ [.lst (ds2.map D.int)] ∧ ds2.length + j ≤ ds.length + 62)
    (fun k' j ρ M _ hE => by
      obtain ⟨r, o7', ds2, rfl, rfl, hl2⟩ := hE
      obtain ⟨r', ds3, h1, h2⟩ := rest_turn (L := L) (o := o) (m := m) (d0 := d) (d1 := d1) (d3 := .int mixed') (d4 := .int (k : Int)) (d5 := .int cell) (d7 := .int (k' : Int)) (rest := r) (ds := ds2) (by omega)
      exact ⟨_, _, _, rfl, h1, r', _, ds3, rfl, rfl, by omega⟩)
    (ρ := [some d, some d1, some (.ref m.length), some (.int mixed'), some (.int (k : Int)), some (.int cell), some (.int rest), o7]) (m := m ++ [.lst (ds1.map D.int)])
    ⟨rest, o7, ds1, rfl, rfl, by omega⟩
  obtain ⟨ρ', M', h1, r, o7', ds2, rfl, rfl, hl2⟩ := loop
  refine ⟨mixed', ds2, some (.int cell), some (.int r), o7', ?_, hb, by omega⟩
  have hR := ran_ok (a := sCons (sK (.int 60)) sNil) (c := ⟨o, L⟩) (ρ := [some d, some d1, some (.ref m.length), some (.int mixed'), some (.int (k : Int)), some (.int cell), some (.int rest), o7]) (m := m ++ [.lst (ds1.map D.int)]) (m' := m ++ [.lst (ds1.map D.int)]) (k := 60) (by simp only [ev, evb]; rfl) (by omega)
  unfold b__law_draws_3
  generalize (ssIf (stCmp cpGe (sVar 5) (sOp opPow (sK (.int 10)) (sK (.int 18)))) _ _) = IF at hmid ⊢
  simp only [ev, evd, evb, hix, hi, habs, hm1, hm2, hm3, hmx', hmid, hR, h1]
theorem last_turn {d0 d1 : D} {o5 o6 o7 : Option D} {k : Nat} {mixed : Int} {ds : List Int} (hmx : 0 ≤ mixed ∧ mixed < 65537) (hl : ds.length ≤ 50000) :
    ∃ (mixed' : Int) (ds' : List Int), b__law_draws_1 ⟨o, L⟩ [some d0, some d1, some (.ref m.length), some (.int mixed), some (.int (k : Int)), o5, o6, o7] (m ++ [.lst (ds.map D.int)]) =
      .ok (.nx [some d0, some d1, some (.ref m.length), some (.int mixed'), some (.int (k : Int)), o5, o6, o7], m ++ [.lst (ds'.map D.int)]) ∧ (0 ≤ mixed' ∧ mixed' < 65537) ∧ ds'.length ≤ ds.length + 1 := by
  have hi : ∀ (i : Int) m, biInt (.int i) m = .ok (.int i, m) := fun _ _ => rfl
  have hm1 : ∀ m, opMul (.int mixed) (.int 16807) m = .ok (.int (mixed * 16807), m) := fun m => mul_ok (by omega) (by decide)
  have hm3 : ∀ a m, opMod (.int a) (.int 65537) m = .ok (.int (a % 65537), m) := fun a m => mod_ok (by omega)
  have hm4 : ∀ a m, opMod (.int a) (.int 997) m = .ok (.int (a % 997), m) := fun a m => mod_ok (by omega)
  generalize hmx' : (mixed * 16807 + (k : Int) + 1) % 65537 = mixed'
  have hL := isL_ints (m := m) (ds := ds)
  have hA := app_ints (m := m) (ds := ds) (v := mixed' % 997) (by omega)
  refine ⟨mixed', ds ++ [mixed' % 997], ?_, by omega, by rw [List.length_append]; exact Nat.le_refl _⟩
  unfold b__law_draws_1
  simp only [ev, evd, evb, hi, hm1, hm3, hmx', hL, if_true, hm4, hA]
theorem draws_ok {d : D} {ns : List Int} (hd : ∀ m, itemsD d m = some (ns.map D.int)) (hlen : ∀ m, biLen d m = .ok (.int (ns.length : Int), m)) (hn : ns.length ≤ 63) (hm : Cl m) : ∃ ds : List Int, callN T.tab L (n + 1) "_law_draws" [d, .int 700] m = .ok (.lst (ds.map D.int), m) := by
  have l1 := forL_cnt (t := .nm 4) (b := b__law_draws_3) (c := ⟨callN T.tab L n, L⟩) (all := upto 0 ns.length) (N := ns.length)
    (E := fun j ρ M => ∃ (mixed : Int) (ds : List Int) (o4 o5 o6 o7 : Option D), ρ = [some d, some (.int 700), some (.ref m.length), some (.int mixed), o4, o5, o6, o7] ∧ M = m ++ [.lst (ds.map D.int)] ∧ (0 ≤ mixed ∧ mixed < 65537) ∧ ds.length + 62 * j ≤ 62 * 63)
    (fun k j ρ M hk hE => by
      obtain ⟨mixed, ds, o4, o5, o6, o7, rfl, rfl, h1, h2⟩ := hE
      obtain ⟨mixed', ds', o5', o6', o7', h3, h4, h5⟩ := draw_turn (L := L) (o := callN T.tab L n) (m := m) (d1 := .int 700) (o5 := o5) (o6 := o6) (o7 := o7) (ds := ds) hd hk (by omega) h1 (by omega)
      exact ⟨_, _, _, rfl, h3, mixed', ds', _, o5', o6', o7', rfl, rfl, h4, by omega⟩)
    (ρ := [some d, some (.int 700), some (.ref m.length), some (.int 7), none, none, none, none]) (m := m ++ [.lst []])
    ⟨7, [], none, none, none, none, rfl, rfl, ⟨by omega, by omega⟩, by simp; omega⟩
  obtain ⟨ρ1, M1, h1, mixed, ds, o4, o5, o6, o7, rfl, rfl, hb, hl⟩ := l1
  have l2 := forL_cnt (t := .nm 4) (b := b__law_draws_1) (c := ⟨callN T.tab L n, L⟩) (all := upto 0 700) (N := 700)
    (E := fun j ρ M => ∃ (mixed : Int) (ds : List Int) (o4 : Option D), ρ = [some d, some (.int 700), some (.ref m.length), some (.int mixed), o4, o5, o6, o7] ∧ M = m ++ [.lst (ds.map D.int)] ∧ (0 ≤ mixed ∧ mixed < 65537) ∧ ds.length + j ≤ 10000)
    (fun k j ρ M hk hE => by
      obtain ⟨mixed, ds, o4, rfl, rfl, h1, h2⟩ := hE
      obtain ⟨mixed', ds', h3, h4, h5⟩ := last_turn (L := L) (o := callN T.tab L n) (m := m) (d0 := d) (d1 := .int 700) (o5 := o5) (o6 := o6) (o7 := o7) (k := k) (ds := ds) h1 (by omega)
      exact ⟨_, _, _, rfl, h3, mixed', ds', _, rfl, rfl, h4, by omega⟩)
    (ρ := [some d, some (.int 700), some (.ref m.length), some (.int mixed), o4, o5, o6, o7]) (m := m ++ [.lst (ds.map D.int)])
    ⟨mixed, ds, o4, rfl, rfl, hb, by omega⟩
  obtain ⟨ρ2, M2, h2, mixed2, ds2, o42, rfl, rfl, hb2, hl2⟩ := l2
  have hR1 := ran_ok (a := sCons (sApp (one biLen) (sCons (sVar 0) sNil)) sNil) (c := ⟨callN T.tab L n, L⟩) (ρ := [some d, some (.int 700), some (.ref m.length), some (.int 7), none, none, none, none]) (m := m ++ [.lst []]) (m' := m ++ [.lst []]) (k := ns.length) (by simp only [ev, evd, evb, hlen]) (by omega)
  have hR2 := ran_ok (a := sCons (sVar 1) sNil) (c := ⟨callN T.tab L n, L⟩) (ρ := [some d, some (.int 700), some (.ref m.length), some (.int mixed), o4, o5, o6, o7]) (m := m ++ [.lst (ds.map D.int)]) (m' := m ++ [.lst (ds.map D.int)]) (k := 700) (by simp only [ev, evd, evb]; rfl) (by omega)
  have hcut : ∃ ds3 : List Int, opSl (.ref m.length) none (some 700) (m ++ [.lst (ds2.map D.int)]) = .ok (.lst (ds3.map D.int), m ++ [.lst (ds2.map D.int)]) := by
    refine ⟨(ds2.drop (HT.sIx (ds2.map D.int).length 0 none)).take (HT.sIx (ds2.map D.int).length (ds2.map D.int).length (some 700) - HT.sIx (ds2.map D.int).length 0 none), ?_⟩
    unfold opSl
    dsimp only
    rw [list_ref (own_get0 (m := m) (l := [Ob.lst (ds2.map D.int)]))]
    dsimp only
    unfold Fp.cutD
    rw [List.map_take, List.map_drop]
  obtain ⟨ds3, h3⟩ := hcut
  refine ⟨ds3, ?_⟩
  rw [callN_at tab__law_draws rfl]
  refine fin_data (l := [Ob.lst (ds2.map D.int)]) ?_ hm (refss_all fun x hx => by
    obtain ⟨r, _, rfl⟩ := List.mem_map.mp hx
    rfl)
  unfold m__law_draws
  simp only [ev, evd, evb, List.map_cons, List.map_nil, List.length_cons, List.length_nil, List.replicate, List.cons_append, List.nil_append, hR1, h1, hR2, h2, h3]
end
end K05

set_option maxHeartbeats 4000000
/-! K05y: the law's next, pick, wild -/
namespace K05
open PySem Fp L2
def kvW (ds : List Int) (a : Nat) : List (Key × D) := [(.inr "draws", .lst (ds.map D.int)), (.inr "at", .int (a : Int))]
abbrev wO (ds : List Int) (a : Nat) : Ob := .dct (kvW ds a)
/-- the memory with the draws at i, a of them gone -/
abbrev Wd (m : Mem) (i : Nat) (ds : List Int) (a : Nat) : Mem := m.set i (wO ds a)
section
variable {L n i : Nat} {m : Mem} {ds : List Int} {o : Str → List D → Mem → RD}
theorem Wd_get {a : Nat} (h : i < m.length) : (Wd m i ds a)[i]? = some (.dct (kvW ds a)) := List.getElem?_set_self h
theorem Wd_cl {a : Nat} (hm : Cl m) : Cl (Wd m i ds a) := hm.set (by
  show refsBs _ [.lst (ds.map D.int), .int (a : Int)] = true
  rw [refsBs, refsBs, refsBs, refsB, refss_all fun x hx => by
    obtain ⟨r, _, rfl⟩ := List.mem_map.mp hx
    rfl]
  rfl)
theorem Wd_len {a : Nat} : (Wd m i ds a).length = m.length := List.length_set ..
theorem get_draws {a : Nat} : dGet (kvW ds a) (.inr "draws") = some (.lst (ds.map D.int)) := by
  unfold kvW
  rw [dGet_cons, if_pos rfl]
theorem get_at {a : Nat} : dGet (kvW ds a) (.inr "at") = some (.int (a : Int)) := by
  unfold kvW
  rw [dGet_cons, if_neg (by decide +kernel), dGet_cons, if_pos rfl]
theorem put_at {a : Nat} {v : Int} : dPut (kvW ds a) (.inr "at") (.int v) = [(.inr "draws", .lst (ds.map D.int)), (.inr "at", .int v)] := by
  unfold kvW dPut
  have h1 : decide ((Sum.inr ("draws" : Str) : Key) = .inr "at") = false := by decide +kernel
  have h2 : ¬ (Sum.inr ("draws" : Str) : Key) = .inr "at" := by decide +kernel
  simp [h1, h2]
theorem next_law {a k : Nat} (hi : i < m.length) (hm : Cl m) (hk : 0 < k) : ∃ r : Nat, r < k ∧ callN T.tab L (n + 1) "_law_next" [.ref i, .int (k : Int)] (Wd m i ds a) = .ok (.int (r : Int), Wd m i ds (a + 1)) := by
  have g1 := Wd_get (ds := ds) (a := a) hi
  have h1 : opGet (.ref i) (.str "at") (Wd m i ds a) = .ok (.int (a : Int), Wd m i ds a) := by
    have hl : listD (.ref i) (Wd m i ds a) = none := by
      unfold listD
      simp only [g1]
    unfold opGet
    rw [hl, dict_ref g1]
    dsimp only [keyD]
    rw [get_at]
  have h2 := put_dict (x := "at") (v := .int ((a : Int) + 1)) g1 (by simp [kvW])
  rw [put_at, List.set_set, show [((.inr "draws" : Key), D.lst (ds.map D.int)), (.inr "at", .int ((a : Int) + 1))] = kvW ds (a + 1) by unfold kvW; rw [show ((a + 1 : Nat) : Int) = (a : Int) + 1 by omega]] at h2
  have g2 := Wd_get (ds := ds) (a := a + 1) hi
  have i1 := ix_dict g2 (x := "at") get_at
  have i2 := ix_dict g2 (x := "draws") get_draws
  have hc : Cl (Wd m i ds (a + 1)) := Wd_cl hm
  have hlen : (ds.map D.int).length = ds.length := List.length_map _
  have hfin : ∀ (r : Nat), m__law_next ⟨callN T.tab L n, L⟩ [some (.ref i), some (.int (k : Int))] (Wd m i ds a) = .ok (.ret (.int (r : Int)), Wd m i ds (a + 1)) → callN T.tab L (n + 1) "_law_next" [.ref i, .int (k : Int)] (Wd m i ds a) = .ok (.int (r : Int), Wd m i ds (a + 1)) := fun r h => by
    rw [callN_at tab__law_next rfl]
    exact fin_ret (m1 := Wd m i ds (a + 1)) (l := []) (by rw [List.append_nil]; exact h) (by rw [Wd_len, Wd_len]) hc rfl
  have haug : ssAugIx (sVar 0) (sK (.str "at")) opIAdd (sK (.int 1)) ⟨callN T.tab L n, L⟩ [some (.ref i), some (.int (k : Int))] (Wd m i ds a) = .ok (.nx [some (.ref i), some (.int (k : Int))], Wd m i ds (a + 1)) := by
    simp only [ev, evd, evb, h1, h2]
  by_cases h : ((ds.length : Nat) : Int) < ((a + 1 : Nat) : Int)
  · refine ⟨0, hk, hfin 0 ?_⟩
    have e : decide (((ds.length : Nat) : Int) < ((a + 1 : Nat) : Int)) = true := decide_eq_true h
    unfold m__law_next
    generalize ssAugIx (sVar 0) (sK (.str ("at" : Str))) opIAdd (sK (.int 1)) = A at haug ⊢
    simp only [ev, evd, evb, haug, i1, i2, hlen, e]
    rfl
  · have ha : a < ds.length := by omega
    have hix : ∀ m, opIx (.lst (ds.map D.int)) (.int (a : Int)) m = .ok (.int ds[a], m) := fun m => ix_items rfl (by rw [List.getElem?_map, List.getElem?_eq_getElem ha]; rfl)
    have hr : 0 ≤ ds[a] % (k : Int) ∧ ds[a] % (k : Int) < k := ⟨Int.emod_nonneg _ (by omega), Int.emod_lt_of_pos _ (by omega)⟩
    refine ⟨(ds[a] % (k : Int)).toNat, by omega, hfin _ ?_⟩
    have e : decide (((ds.length : Nat) : Int) < ((a + 1 : Nat) : Int)) = false := decide_eq_false h
    have hi' : ∀ (i : Int) m, biInt (.int i) m = .ok (.int i, m) := fun _ _ => rfl
    have hmod : ∀ m, opMod (.int ds[a]) (.int (k : Int)) m = .ok (.int (ds[a] % (k : Int)), m) := fun m => mod_ok (by omega)
    rw [show (((ds[a] % (k : Int)).toNat : Nat) : Int) = ds[a] % (k : Int) by omega]
    have hsub : ((a + 1 : Nat) : Int) - 1 = (a : Int) := by omega
    unfold m__law_next
    generalize ssAugIx (sVar 0) (sK (.str ("at" : Str))) opIAdd (sK (.int 1)) = A at haug ⊢
    simp only [ev, evd, evb, haug, i1, i2, hlen, e, hsub, hix, hi', hmod]
theorem pick_law {a : Nat} {xs : List Str} (hi : i < m.length) (hm : Cl m) (hx : 0 < xs.length) : ∃ x ∈ xs, callN T.tab L (n + 2) "_law_pick" [.ref i, .lst (xs.map D.str)] (Wd m i ds a) = .ok (.str x, Wd m i ds (a + 1)) := by
  obtain ⟨r, hr, h1⟩ := next_law (L := L) (n := n) (a := a) (ds := ds) hi hm hx
  refine ⟨xs[r], List.getElem_mem hr, ?_⟩
  have hix : ∀ m, opIx (.lst (xs.map D.str)) (.int (r : Int)) m = .ok (.str xs[r], m) := fun m => ix_items rfl (by rw [List.getElem?_map, List.getElem?_eq_getElem hr]; rfl)
  have hlen : (xs.map D.str).length = xs.length := List.length_map _
  rw [callN_at tab__law_pick rfl]
  refine fin_ret (m1 := Wd m i ds (a + 1)) (l := []) (d := .str xs[r]) ?_ (by rw [Wd_len, Wd_len]) (Wd_cl hm) rfl
  rw [List.append_nil]
  show m__law_pick _ [some (.ref i), some (.lst (xs.map D.str))] _ = _
  unfold m__law_pick
  simp only [ev, evd, evb, hlen, h1, hix]
theorem nbq :
    (((0 : Int) == 2) = false) ∧
    (((0 : Int) == 3) = false) ∧
    (((0 : Int) == 4) = false) ∧
    (((0 : Int) == 7) = false) ∧
    (((1 : Int) == 2) = false) ∧
    (((1 : Int) == 3) = false) ∧
    (((1 : Int) == 4) = false) ∧
    (((1 : Int) == 7) = false) ∧
    (((2 : Int) == 2) = true) ∧
    (((2 : Int) == 3) = false) ∧
    (((2 : Int) == 4) = false) ∧
    (((2 : Int) == 7) = false) ∧
    (((3 : Int) == 2) = false) ∧
    (((3 : Int) == 3) = true) ∧
    (((3 : Int) == 4) = false) ∧
    (((3 : Int) == 7) = false) ∧
    (((4 : Int) == 2) = false) ∧
    (((4 : Int) == 3) = false) ∧
    (((4 : Int) == 4) = true) ∧
    (((4 : Int) == 7) = false) ∧
    (((5 : Int) == 2) = false) ∧
    (((5 : Int) == 3) = false) ∧
    (((5 : Int) == 4) = false) ∧
    (((5 : Int) == 7) = false) ∧
    (((6 : Int) == 2) = false) ∧
    (((6 : Int) == 3) = false) ∧
    (((6 : Int) == 4) = false) ∧
    (((6 : Int) == 7) = false) ∧
    (((7 : Int) == 2) = false) ∧
    (((7 : Int) == 3) = false) ∧
    (((7 : Int) == 4) = false) ∧
    (((7 : Int) == 7) = true) ∧
    (((8 : Int) == 2) = false) ∧
    (((8 : Int) == 3) = false) ∧
    (((8 : Int) == 4) = false) ∧
    (((8 : Int) == 7) = false) := by
  decide +kernel
def Sw : Nat → Nat
  | 0 => 1
  | d + 1 => 3 + 3 * Sw d
def Good (d : Nat) (t : Tm) : Prop := WF t ∧ Sok t ∧ ht t ≤ d ∧ sz t ≤ Sw d
theorem Sw_pos (d : Nat) : 1 ≤ Sw d := by cases d <;> simp [Sw] <;> omega
theorem ok5 : PyData.strOk ("x" : Str) = true ∧ PyData.strOk ("y" : Str) = true ∧ PyData.strOk ("za" : Str) = true ∧ PyData.strOk ("zb" : Str) = true ∧ PyData.strOk ("q" : Str) = true := by
  refine ⟨?_, ?_, ?_, ?_, ?_⟩ <;> decide +kernel
def n3 : List Str := [("x" : Str), "y", "za"]
def n5 : List Str := [("x" : Str), "y", "za", "zb", "q"]
def u3 : List Str := [("quote" : Str), "splice", "lift"]
theorem in3 {x : Str} (h : x ∈ n3) : PyData.strOk x = true := by
  obtain ⟨h1, h2, h3, h4, h5⟩ := ok5
  simp only [n3, List.mem_cons, List.not_mem_nil, or_false] at h
  rcases h with rfl | rfl | rfl <;> assumption
theorem in5 {x : Str} (h : x ∈ n5) : PyData.strOk x = true := by
  obtain ⟨h1, h2, h3, h4, h5⟩ := ok5
  simp only [n5, List.mem_cons, List.not_mem_nil, or_false] at h
  rcases h with rfl | rfl | rfl | rfl | rfl <;> assumption
theorem sok_nil : Sok .nil := fun x h => by cases h
theorem wild_ok (hi : i < m.length) (hm : Cl m) : ∀ (d : Nat) (a : Nat) {n : Nat}, d + 4 ≤ n → ∃ t a', Good d t ∧ callN T.tab L n "_law_wild" [.ref i, .int (d : Int)] (Wd m i ds a) = .ok (enc t, Wd m i ds a') := by
  intro d
  induction d with
  | zero =>
    intro a n hn
    obtain ⟨n, rfl⟩ : ∃ k, n = k + 1 := ⟨n - 1, by omega⟩
    obtain ⟨x, hx, p1⟩ := pick_law (L := L) (n := n - 2) (a := a) (ds := ds) (xs := n3) hi hm (by decide)
    obtain ⟨y, hy, p2⟩ := pick_law (L := L) (n := n - 2) (a := a + 1) (ds := ds) (xs := n5) hi hm (by decide)
    rw [show n - 2 + 2 = n by omega] at p1 p2
    refine ⟨.var y, a + 1 + 1, ⟨.var y, sok_var.mpr (in5 hy), Nat.zero_le _, by simp [sz, Sw]⟩, ?_⟩
    rw [callN_at tab__law_wild rfl]
    refine fin_ret (m1 := Wd m i ds (a + 1 + 1)) (l := []) (d := enc (.var y)) ?_ (by rw [Wd_len, Wd_len]) (Wd_cl hm) (frz_id (refs_mono (Nat.zero_le _) (refs_enc _)))
    rw [List.append_nil]
    show m__law_wild _ [some (.ref i), some (.int 0), none, none] _ = _
    have h3 : ∀ m, mkL false [.str "x", .str "y", .str "za"] m = .ok (.lst (n3.map D.str), m) := fun _ => by kernel_rfl
    have h5 : ∀ m, mkL false [.str "x", .str "y", .str "za", .str "zb", .str "q"] m = .ok (.lst (n5.map D.str), m) := fun _ => by kernel_rfl
    have e0 : decide ((0 : Int) < 0) = false := rfl
    generalize List.map D.str n3 = X3 at p1 h3
    generalize List.map D.str n5 = X5 at p2 h5
    unfold m__law_wild
    simp only [ev, evd, evb, e0, h3, p1, nums, nbq, h5, p2, enc_shapes]
  | succ d ih =>
    intro a n hn
    obtain ⟨n, rfl⟩ : ∃ k, n = k + 1 := ⟨n - 1, by omega⟩
    have hS : Sw (d + 1) = 3 + 3 * Sw d := rfl
    have hSp := Sw_pos d
    obtain ⟨r, hr, q1⟩ := next_law (L := L) (n := n - 1) (a := a) (ds := ds) (k := 9) hi hm (by omega)
    obtain ⟨x, hx, p1⟩ := pick_law (L := L) (n := n - 2) (a := a + 1) (ds := ds) (xs := n3) hi hm (by decide)
    rw [show n - 1 + 1 = n by omega] at q1
    rw [show n - 2 + 2 = n by omega] at p1
    have hxo := in3 hx
    have h3 : ∀ m, mkL false [.str "x", .str "y", .str "za"] m = .ok (.lst (n3.map D.str), m) := fun _ => by kernel_rfl
    have h5 : ∀ m, mkL false [.str "x", .str "y", .str "za", .str "zb", .str "q"] m = .ok (.lst (n5.map D.str), m) := fun _ => by kernel_rfl
    have h3' : ∀ m, mkL false [.str "quote", .str "splice", .str "lift"] m = .ok (.lst (u3.map D.str), m) := fun _ => by kernel_rfl
    have e0 : decide ((0 : Int) < ((d + 1 : Nat) : Int)) = true := decide_eq_true (by omega)
    have esub : ((d + 1 : Nat) : Int) - 1 = (d : Int) := by omega
    have t5 : ∀ a b c d e m, sTup [a, b, c, d, e] m = .ok (.tup [a, b, c, d, e], m) := fun _ _ _ _ _ _ => by kernel_rfl
    have t6 : ∀ a b c d e f m, sTup [a, b, c, d, e, f] m = .ok (.tup [a, b, c, d, e, f], m) := fun _ _ _ _ _ _ _ => by kernel_rfl
    rw [show ((9 : Nat) : Int) = 9 from rfl] at q1
    generalize List.map D.str n3 = X3 at p1 h3
    obtain ⟨t1, a1, g1, w1⟩ := ih (a + 1 + 1) (n := n) (by omega)
    obtain ⟨t2, a2, g2, w2⟩ := ih a1 (n := n) (by omega)
    obtain ⟨t3, a3, g3, w3⟩ := ih a2 (n := n) (by omega)
    have hfin : ∀ (t : Tm) (a' : Nat), Good (d + 1) t → m__law_wild ⟨callN T.tab L n, L⟩ [some (.ref i), some (.int ((d + 1 : Nat) : Int)), none, none] (Wd m i ds a) = .ok (.ret (enc t), Wd m i ds a') →
        ∃ t a', Good (d + 1) t ∧ callN T.tab L (n + 1) "_law_wild" [.ref i, .int ((d + 1 : Nat) : Int)] (Wd m i ds a) = .ok (enc t, Wd m i ds a') := fun t a' g h => by
      refine ⟨t, a', g, ?_⟩
      rw [callN_at tab__law_wild rfl]
      exact fin_ret (m1 := Wd m i ds a') (l := []) (by rw [List.append_nil]; exact h) (by rw [Wd_len, Wd_len]) (Wd_cl hm) (frz_id (refs_mono (Nat.zero_le _) (refs_enc _)))
    have hfun : Good (d + 1) (.nd "fun" .nil .nil [x] t1) := ⟨.fn g1.1, sok_nd.mpr ⟨fun z hz => by rw [List.mem_singleton.mp hz]; exact hxo, sok_nil, sok_nil, g1.2.1⟩, by have := g1.2.2.1; simp only [ht]; omega, by have := g1.2.2.2; simp only [sz, List.length_singleton]; omega⟩
    have happ : Good (d + 1) (.nd "app" t1 .nil [] t2) := ⟨.app g1.1 g2.1, sok_nd.mpr ⟨fun z hz => by (cases hz), g1.2.1, sok_nil, g2.2.1⟩, by have := g1.2.2.1; have := g2.2.2.1; simp only [ht]; omega, by have := g1.2.2.2; have := g2.2.2.2; simp only [sz, List.length_nil]; omega⟩
    have hlet : Good (d + 1) (.nd "let" t1 .nil [x] t2) := ⟨.lt g1.1 g2.1, sok_nd.mpr ⟨fun z hz => by rw [List.mem_singleton.mp hz]; exact hxo, g1.2.1, sok_nil, g2.2.1⟩, by have := g1.2.2.1; have := g2.2.2.1; simp only [ht]; omega, by have := g1.2.2.2; have := g2.2.2.2; simp only [sz, List.length_singleton]; omega⟩
    have hloop : Good (d + 1) (.nd "loop" t1 t2 [x] t3) := ⟨.loop g1.1 g2.1 g3.1, sok_nd.mpr ⟨fun z hz => by rw [List.mem_singleton.mp hz]; exact hxo, g1.2.1, g2.2.1, g3.2.1⟩, by have := g1.2.2.1; have := g2.2.2.1; have := g3.2.2.1; simp only [ht]; omega, by have := g1.2.2.2; have := g2.2.2.2; have := g3.2.2.2; simp only [sz, List.length_singleton]; omega⟩
    have hfold : ∀ y, PyData.strOk y = true → Good (d + 1) (.nd "fold" t1 t2 [x, y] t3) := fun y hy => ⟨.fold g1.1 g2.1 g3.1, sok_nd.mpr ⟨fun z hz => by
      simp only [List.mem_cons, List.not_mem_nil, or_false] at hz
      rcases hz with rfl | rfl
      · exact hxo
      · exact hy, g1.2.1, g2.2.1, g3.2.1⟩, by have := g1.2.2.1; have := g2.2.2.1; have := g3.2.2.1; simp only [ht]; omega, by have := g1.2.2.2; have := g2.2.2.2; have := g3.2.2.2; simp only [sz, List.length_cons, List.length_nil]; omega⟩
    have hcase : r = 0 ∨ r = 1 ∨ r = 2 ∨ r = 3 ∨ r = 4 ∨ r = 5 ∨ r = 6 ∨ r = 7 ∨ r = 8 := by omega
    rcases hcase with rfl | rfl | rfl | rfl | rfl | rfl | rfl | rfl | rfl
    · refine hfin _ a1 hfun ?_
      rw [show ((0 : Nat) : Int) = 0 from rfl] at q1
      unfold m__law_wild
      simp only [ev, evd, evb, e0, q1, h3, p1, nums, nbq, esub, w1, enc_shapes]
    · refine hfin _ a1 hfun ?_
      rw [show ((1 : Nat) : Int) = 1 from rfl] at q1
      unfold m__law_wild
      simp only [ev, evd, evb, e0, q1, h3, p1, nums, nbq, esub, w1, enc_shapes]
    · refine hfin _ a2 hlet ?_
      rw [show ((2 : Nat) : Int) = 2 from rfl] at q1
      unfold m__law_wild
      simp only [ev, evd, evb, e0, q1, h3, p1, nums, nbq, esub, w1, w2, enc_shapes]
    · rw [show ((3 : Nat) : Int) = 3 from rfl] at q1
      have ey := fun m => cpEq_str (m := m) hxo ok5.2.1
      cases hyb : x == ("y" : Str) with
      | true =>
        rw [hyb] at ey
        refine hfin _ a3 (hfold "zb" ok5.2.2.2.1) ?_
        unfold m__law_wild
        simp only [ev, evd, evb, e0, q1, h3, p1, nums, nbq, esub, w1, w2, w3, ey, t6, enc_shapes]
      | false =>
        rw [hyb] at ey
        refine hfin _ a3 (hfold "y" ok5.2.1) ?_
        unfold m__law_wild
        simp only [ev, evd, evb, e0, q1, h3, p1, nums, nbq, esub, w1, w2, w3, ey, t6, enc_shapes]
    · refine hfin _ a3 hloop ?_
      rw [show ((4 : Nat) : Int) = 4 from rfl] at q1
      unfold m__law_wild
      simp only [ev, evd, evb, e0, q1, h3, p1, nums, nbq, esub, w1, w2, w3, t5, enc_shapes]
    · refine hfin _ a2 happ ?_
      rw [show ((5 : Nat) : Int) = 5 from rfl] at q1
      unfold m__law_wild
      simp only [ev, evd, evb, e0, q1, h3, p1, nums, nbq, esub, w1, w2, enc_shapes]
    · refine hfin _ a2 happ ?_
      rw [show ((6 : Nat) : Int) = 6 from rfl] at q1
      unfold m__law_wild
      simp only [ev, evd, evb, e0, q1, h3, p1, nums, nbq, esub, w1, w2, enc_shapes]
    · rw [show ((7 : Nat) : Int) = 7 from rfl] at q1
      obtain ⟨w, hw, p2⟩ := pick_law (L := L) (n := n - 2) (a := a + 1 + 1) (ds := ds) (xs := u3) hi hm (by decide)
      rw [show n - 2 + 2 = n by omega] at p2
      obtain ⟨t4, a4, g4, w4⟩ := ih (a + 1 + 1 + 1) (n := n) (by omega)
      have hw' : w = ("quote" : Str) ∨ w = ("splice" : Str) ∨ w = ("lift" : Str) := by simpa [u3] using hw
      have hun : Good (d + 1) (.nd w .nil .nil [] t4) := ⟨.un hw' g4.1, sok_nd.mpr ⟨fun z hz => by (cases hz), sok_nil, sok_nil, g4.2.1⟩, by have := g4.2.2.1; simp only [ht]; omega, by have := g4.2.2.2; simp only [sz, List.length_nil]; omega⟩
      have eenc : enc (.nd w .nil .nil [] t4) = .tup [.str w, enc t4] := by
        rcases hw' with rfl | rfl | rfl <;> simp only [enc_shapes]
      refine hfin _ a4 hun ?_
      rw [eenc]
      generalize List.map D.str u3 = X3' at p2 h3'
      unfold m__law_wild
      simp only [ev, evd, evb, e0, q1, h3, p1, nums, nbq, esub, h3', p2, w4]
    · rw [show ((8 : Nat) : Int) = 8 from rfl] at q1
      obtain ⟨y, hy, p2⟩ := pick_law (L := L) (n := n - 2) (a := a + 1 + 1) (ds := ds) (xs := n5) hi hm (by decide)
      rw [show n - 2 + 2 = n by omega] at p2
      refine hfin (.var y) (a + 1 + 1 + 1) ⟨.var y, sok_var.mpr (in5 hy), Nat.zero_le _, by simp only [sz]; omega⟩ ?_
      generalize List.map D.str n5 = X5 at p2 h5
      unfold m__law_wild
      simp only [ev, evd, evb, e0, q1, h3, p1, nums, nbq, h5, p2, enc_shapes]
end
end K05

set_option maxHeartbeats 4000000
/-! K05z: a turn of the law -/
namespace K05
open PySem Fp L2
def tc1 : ST := (stCmp cpNe (sCall ("_law_bare" : Str) (sCons (sVar 5) (sCons (sApp sTup sNil) sNil))) (sCall ("_law_put" : Str) (sCons (sCall ("_law_bare" : Str) (sCons (sVar 9) (sCons (sApp sTup sNil) sNil))) (sCons (sVar 4) (sCons (sCall ("_law_bare" : Str) (sCons (sVar 10) (sCons (sApp sTup sNil) sNil))) (sCons (sK (.int 0)) sNil))))))
def tc2 : ST := (stOr (stAnd (stCmp cpNotIn (sVar 4) (sCall ("_law_free" : Str) (sCons (sVar 9) sNil))) (stCmp cpNe (sVar 5) (sVar 9))) (stCmp cpNe (sCall ("free_in" : Str) (sCons (sVar 5) sNil)) (sApp (one biTuple) (sCons (sUn biSortSet (sOp opAdd (sComp false (siSeq (sCall ("_law_free" : Str) (sCons (sVar 9) sNil))) (.nm 12) [12] (stCmp cpNe (sVar 12) (sVar 4)) (sVar 12)) (sIfE (stCmp cpIn (sVar 4) (sCall ("_law_free" : Str) (sCons (sVar 9) sNil))) (sCall ("_law_free" : Str) (sCons (sVar 10) sNil)) (sApp (mkL false) sNil)))) sNil))))
def tc3 : ST := (stOr (stCmp cpNe (sCall ("renamed" : Str) (sCons (sVar 9) (sCons (sDisp false [((sVar 4), (sVar 6))]) sNil))) (sCall ("replaced" : Str) (sCons (sVar 9) (sCons (sVar 4) (sCons (sApp sTup (sCons (sK (.str ("var" : Str))) (sCons (sVar 6) sNil))) sNil))))) (stCmp cpNe (sCall ("renamed" : Str) (sCons (sVar 9) (sCons (sDisp false [((sK (.str ("q" : Str))), (sK (.str ("x" : Str)))), ((sK (.str ("y" : Str))), (sK (.str ("q" : Str))))]) sNil))) (sCall ("replaced" : Str) (sCons (sCall ("replaced" : Str) (sCons (sVar 9) (sCons (sK (.str ("q" : Str))) (sCons (sApp sTup (sCons (sK (.str ("var" : Str))) (sCons (sK (.str ("x" : Str))) sNil))) sNil)))) (sCons (sK (.str ("y" : Str))) (sCons (sApp sTup (sCons (sK (.str ("var" : Str))) (sCons (sK (.str ("q" : Str))) sNil))) sNil))))))
def tc4 : ST := (stOr (stCmp cpNe (sOp (opC cpIs) (sCall ("same_terms" : Str) (sCons (sVar 9) (sCons (sVar 11) sNil))) (sK (.bl true))) (sCall ("_law_alike" : Str) (sCons (sVar 9) (sCons (sVar 11) sNil)))) (stCmp cpNe (sOp (opC cpEq) (sCall ("tidy" : Str) (sCons (sVar 9) sNil)) (sCall ("tidy" : Str) (sCons (sVar 11) sNil))) (sCall ("_law_alike" : Str) (sCons (sVar 9) (sCons (sVar 11) sNil)))))
def tc5 : ST := (stOr (stNot (stTru (sCall ("_law_alike" : Str) (sCons (sCall ("tidy" : Str) (sCons (sVar 9) sNil)) (sCons (sVar 9) sNil))))) (stOr (stCmp cpNe (sCall ("tidy" : Str) (sCons (sCall ("tidy" : Str) (sCons (sVar 9) sNil)) sNil)) (sCall ("tidy" : Str) (sCons (sVar 9) sNil))) (stCmp cpIsNot (sCall ("is_apart" : Str) (sCons (sCall ("tidy" : Str) (sCons (sVar 9) sNil)) sNil)) (sK (.bl true)))))
def tc6 : ST := (stOr (stCmp cpNe (sCall ("bound_in" : Str) (sCons (sVar 9) sNil)) (sVar 7)) (stCmp cpNe (sOp (opC cpIs) (sCall ("is_apart" : Str) (sCons (sVar 9) sNil)) (sK (.bl true))) (sAndE (sOp (opC cpEq) (sUn biLenSet (sVar 7)) (sApp (one biLen) (sCons (sVar 7) sNil))) (sOp (opC cpEq) (sComp false (siSeq (sCall ("_law_free" : Str) (sCons (sVar 9) sNil))) (.nm 12) [12] (stCmp cpIn (sVar 12) (sVar 7)) (sVar 12)) (sApp (mkL false) sNil)))))
def tc7 : ST := (stOr (stCmp cpNe (sCall ("stepped" : Str) (sCons (sVar 8) sNil)) (sVar 5)) (stCmp cpNe (sCall ("stepped" : Str) (sCons (sApp sTup (sCons (sK (.str ("let" : Str))) (sCons (sVar 4) (sCons (sVar 10) (sCons (sVar 9) sNil))))) sNil)) (sVar 5)))
theorem b_law_1_eq : b_law_1 = (ssCons (ssPar [9, 10, 11] (sCons (sCall ("_law_wild" : Str) (sCons (sVar 1) (sCons (sK (.int 3)) sNil))) (sCons (sCall ("_law_wild" : Str) (sCons (sVar 1) (sCons (sK (.int 2)) sNil))) (sCons (sCall ("_law_wild" : Str) (sCons (sVar 1) (sCons (sK (.int 3)) sNil))) sNil)))) (ssCons (ssSet (.nm 4) (sCall ("_law_pick" : Str) (sCons (sVar 1) (sCons (sApp (mkL false) (sCons (sK (.str ("x" : Str))) (sCons (sK (.str ("y" : Str))) (sCons (sK (.str ("za" : Str))) (sCons (sK (.str ("zb" : Str))) (sCons (sK (.str ("q" : Str))) sNil)))))) sNil)))) (ssCons (ssSet (.nm 5) (sCall ("replaced" : Str) (sCons (sVar 9) (sCons (sVar 4) (sCons (sVar 10) sNil))))) (ssCons (ssIf tc1 (ssCons (ssRet (sK (.bl false))) ssNil) ssNil) (ssCons (ssIf tc2 (ssCons (ssRet (sK (.bl false))) ssNil) ssNil) (ssCons (ssSet (.nm 6) (sCall ("_law_pick" : Str) (sCons (sVar 1) (sCons (sApp (mkL false) (sCons (sK (.str ("za" : Str))) (sCons (sK (.str ("r" : Str))) (sCons (sK (.str ("x" : Str))) sNil)))) sNil)))) (ssCons (ssIf tc3 (ssCons (ssRet (sK (.bl false))) ssNil) ssNil) (ssCons (ssIf tc4 (ssCons (ssRet (sK (.bl false))) ssNil) ssNil) (ssCons (ssIf tc5 (ssCons (ssRet (sK (.bl false))) ssNil) ssNil) (ssCons (ssSet (.nm 7) (sCall ("_law_bound" : Str) (sCons (sVar 9) sNil))) (ssCons (ssIf tc6 (ssCons (ssRet (sK (.bl false))) ssNil) ssNil) (ssCons (ssSet (.nm 8) (sApp sTup (sCons (sK (.str ("app" : Str))) (sCons (sApp sTup (sCons (sK (.str ("fun" : Str))) (sCons (sVar 4) (sCons (sVar 9) sNil)))) (sCons (sVar 10) sNil))))) (ssCons (ssIf tc7 (ssCons (ssRet (sK (.bl false))) ssNil) ssNil) ssNil))))))))))))) := rfl
theorem rpl_id {fr : List Str → Str} {n : Nat} {t o : Tm} {x : Str} (h : x ∉ free t) : rpl fr n t x o = t := by
  cases t with
  | nil => cases n <;> rfl
  | var y =>
    have : ¬ y = x := fun e => h (by rw [e]; exact List.mem_singleton.mpr rfl)
    cases n <;> (rw [rpl, if_neg this])
  | nd w a b bs c =>
    cases n with
    | zero => rfl
    | succ n => rw [rpl, if_neg h]
theorem strs_pl {xs : List Str} (h : ∀ x ∈ xs, PyData.strOk x = true) : plD 64 (.lst (xs.map D.str)) = true ∧ plD 64 (.tup (xs.map D.str)) = true := by
  have : plDs 63 (xs.map D.str) = true := pls_all fun d hd => by
    obtain ⟨x, hx, rfl⟩ := List.mem_map.mp hd
    exact h x hx
  exact ⟨by rw [plD]; exact this, by rw [plD]; exact this⟩
theorem filter_any {α : Type} (p : α → Bool) : ∀ xs : List α, (xs.filter p).isEmpty = !xs.any p
  | [] => rfl
  | x :: xs => by
    rw [List.filter_cons, List.any_cons]
    cases h : p x with
    | true => rfl
    | false => simpa [h] using filter_any p xs
section
variable {L n : Nat} {m M : Mem} {o : Str → List D → Mem → RD} {t u v : Tm} {x y : Str}
theorem cpNe_bl {a b : Bool} : cpNe (.bl a) (.bl b) m = some (!(a == b)) := by
  cases a <;> cases b <;> kernel_rfl
theorem disp1 {k w : SE} {c : Cxt} {ρ : EnvD} {e : D} (h1 : k c ρ m = .ok (.str x, m)) (h2 : w c ρ m = .ok (e, m)) : sDisp false [(k, w)] c ρ m = .ok (.dct [.inr x] [e], m) := by
  unfold sDisp sPairs
  rw [if_pos (by simp), h1, evb]
  dsimp only
  rw [h2, evb]
  rfl
theorem disp2 {c : Cxt} {ρ : EnvD} : sDisp false [((sK (.str ("q" : Str))), (sK (.str ("x" : Str)))), ((sK (.str ("y" : Str))), (sK (.str ("q" : Str))))] c ρ m = .ok (.dct [.inr "q", .inr "y"] [.str "x", .str "q"], m) := by kernel_rfl
/-- the found term -/
theorem found_good (gt : Good 3 t) (gu : Good 2 u) : WF (rpl fresh 3 t x u) ∧ Sok (rpl fresh 3 t x u) ∧ ht (rpl fresh 3 t x u) ≤ 5 ∧ sz (rpl fresh 3 t x u) ≤ 1386 := by
  obtain ⟨h1, h2, h3, h4⟩ := gt
  obtain ⟨k1, k2, k3, k4⟩ := gu
  refine ⟨wf_rpl h1 k1, sok_rpl h2 k2, ?_, ?_⟩
  · have := ht_rpl2 (o := u) (n := 3) (t := t) (x := x)
    omega
  · have h := sz_rpl (fr := fresh) (sz_pos k1) 3 t x
    have h5 : sz t * sz u ≤ 66 * 21 := Nat.mul_le_mul h4 k4
    omega
theorem rep3 (hL : 20000 ≤ L) {w : Tm} (gt : Good 3 t) (gw : Good 2 w) (hx : PyData.strOk x = true) (hn : 40 ≤ n) (hm : Cl M) : callN T.tab L n "replaced" [enc t, .str x, enc w] M = .ok (enc (rpl fresh 3 t x w), M) :=
  rep_ok hL (H := 2) (by omega) 3 (by omega) n (by omega) gt.1 gt.2.1 gt.2.2.1 (by have := gt.2.2.2; simp only [Sw] at this; omega) gw.1 gw.2.1 gw.2.2.1 (by have := gw.2.2.2; simp only [Sw] at this; omega) hx hm
theorem good_var (hy : PyData.strOk y = true) : Good 2 (.var y) := ⟨.var y, sok_var.mpr hy, Nat.zero_le _, by simp [sz, Sw]⟩
theorem good_ren (gt : Good 3 t) (hy : PyData.strOk y = true) : Good 3 (rpl fresh 3 t x (.var y)) :=
  ⟨wf_rpl gt.1 (.var y), sok_rpl gt.2.1 (sok_var.mpr hy), by rw [ht_rpl]; exact gt.2.2.1, by rw [sz_rpl_var]; exact gt.2.2.2⟩
theorem c1_ok (hn : 70 ≤ n) (hm : Cl M) (gt : Good 3 t) (gu : Good 2 u) (hx : PyData.strOk x = true) {d0 d1 d2 d3 e6 e7 e8 : Option D} :
    tc1 ⟨callN T.tab L n, L⟩ [d0, d1, d2, d3, some (.str x), some (enc (rpl fresh 3 t x u)), e6, e7, e8, some (enc t), some (enc u), some (enc v), none] M = .ok (false, M) := by
  have hF := found_good (x := x) gt gu
  have h1 := bare0_ok (L := L) hF.1 hF.2.1 (by omega) (n := n) (by omega) hm
  have h2 := bare0_ok (L := L) gt.1 gt.2.1 (by have := gt.2.2.1; omega) (n := n) (by omega) hm
  have h3 := bare0_ok (L := L) gu.1 gu.2.1 (by have := gu.2.2.1; omega) (n := n) (by omega) hm
  have h4 := put0_ok (L := L) (O := bare u) hx gt.1 gt.2.1 (by have := gt.2.2.1; omega) (n := n) (by omega) hm
  rw [← bare_rpl (fr := fresh) fresh_out (n := 3) gt.2.2.1] at h4
  have hp := bare_pl hF.1 hF.2.1 (by omega)
  have h5 := cpNe_pl (m := M) hp hp
  rw [eqDb_refl] at h5
  unfold tc1
  simp only [ev, evd, evb, h1, h2, h3, h4, h5]
theorem c2_ok (hn : 70 ≤ n) (hm : Cl M) (gt : Good 3 t) (gu : Good 2 u) (hx : PyData.strOk x = true) {d0 d1 d2 d3 e6 e7 e8 : Option D} :
    tc2 ⟨callN T.tab L n, L⟩ [d0, d1, d2, d3, some (.str x), some (enc (rpl fresh 3 t x u)), e6, e7, e8, some (enc t), some (enc u), some (enc v), none] M = .ok (false, M) := by
  have hLIM : LIM = 16777216 := rfl
  have hF := found_good (x := x) gt gu
  have hsT : sz t ≤ 66 := gt.2.2.2
  have hsU : sz u ≤ 21 := gu.2.2.2
  have h1 := lfree_ok (L := L) 3 gt.1 gt.2.2.1 (by omega) gt.2.1 (n := n) (m := M) (by omega) hm
  have h2 := lfree_ok (L := L) 2 gu.1 gu.2.2.1 (by omega) gu.2.1 (n := n) (m := M) (by omega) hm
  have h3 := free_ok (L := L) 5 hF.1 hF.2.2.1 (by omega) hF.2.1 (n := n) (m := M) (by omega) hm
  have hpF := enc_pl hF.1 hF.2.1
  have hpT := enc_pl gt.1 gt.2.1
  have hfr := free_rpl (fr := fresh) fresh_out (n := 3) (t := t) (o := u) (x := x) gt.2.2.1
  have hfok := (strs_pl (xs := free (rpl fresh 3 t x u)) fun z hz => hF.2.1 z (free_all hz)).2
  have hl1 := free_len t
  have hl2 := free_len u
  have hC : compL (Fp.compTurn (.nm 12) (stCmp cpNe (sVar 12) (sVar 4)) (sVar 12) ⟨callN T.tab L n, L⟩ (wipeD [d0, d1, d2, d3, some (.str x), some (enc (rpl fresh 3 t x u)), e6, e7, e8, some (enc t), some (enc u), some (enc v), none] [12])) none ((free t).map D.str) ((free t).map D.str) M =
      .ok (((free t).filter fun y => !decide (y = x)).map D.str, M) := by
    refine compL_filter (p := fun y => !decide (y = x)) fun z hz => ?_
    have e := cpNe_str (m := M) (gt.2.1 z (free_all hz)) hx
    unfold Fp.compTurn
    by_cases q : z = x
    · rw [show (z == x) = true by simp [q]] at e
      simp only [asgD, wipeD, ev, evd, evb, e]
      simp [q]
    · rw [show (z == x) = false by simp [q]] at e
      simp only [asgD, wipeD, ev, evd, evb, e]
      simp [q]
  have hfl : ((free t).filter fun y => !decide (y = x)).length ≤ (free t).length := List.length_filter_le _ _
  have hM := mkL_lst (m := M) (ds := ((free t).filter fun y => !decide (y = x)).map D.str) (by rw [List.length_map]; omega)
  have h5 := cpNe_pl (m := M) hfok hfok
  rw [eqDb_refl] at h5
  unfold lstS at h1 h2
  unfold encs at h3
  have g1 : cpIn (.str x) (.lst ((free t).map D.str)) M = some (decide (x ∈ free t)) := cpIn_lstS
  have g2 : cpNotIn (.str x) (.lst ((free t).map D.str)) M = some (!decide (x ∈ free t)) := by
    unfold cpNotIn
    rw [g1]
    rfl
  by_cases hxt : x ∈ free t
  · rw [decide_eq_true hxt] at g1 g2
    rw [if_pos hxt] at hfr
    have hA := add_lst (m := M) (xs := ((free t).filter fun y => !decide (y = x)).map D.str) (ys := (free u).map D.str) (by rw [List.length_map, List.length_map]; omega)
    rw [← List.map_append] at hA
    have hS := sortSet_ok (d := .lst ((((free t).filter fun y => !decide (y = x)) ++ free u).map D.str)) (m := M) rfl (by rw [List.length_append]; omega)
    rw [show sortS (ddS (((free t).filter fun y => !decide (y = x)) ++ free u)) = free (rpl fresh 3 t x u) from hfr.symm] at hS
    unfold tc2
    simp only [ev, evd, evb, h1, g2, g1, h2, h3, hC, hM, hA, hS, h5]
  · rw [decide_eq_false hxt] at g1 g2
    rw [if_neg hxt] at hfr
    have hA := add_lst (m := M) (xs := ((free t).filter fun y => !decide (y = x)).map D.str) (ys := []) (by rw [List.length_map, List.length_nil]; omega)
    rw [List.append_nil] at hA hfr
    have hS := sortSet_ok (d := .lst (((free t).filter fun y => !decide (y = x)).map D.str)) (m := M) rfl (by omega)
    rw [show sortS (ddS ((free t).filter fun y => !decide (y = x))) = free (rpl fresh 3 t x u) from hfr.symm] at hS
    have hid : rpl fresh 3 t x u = t := rpl_id hxt
    have h6 : cpNe (enc (rpl fresh 3 t x u)) (enc t) M = some false := by
      rw [cpNe_pl (pl_mono (by omega) hpF) (pl_mono (by have := gt.2.2.1; omega) hpT), hid, eqDb_refl]
      rfl
    unfold tc2
    simp only [ev, evd, evb, h1, g2, h6, g1, h3, hC, hM, hA, hS, h5]
theorem c3_ok (hL : 20000 ≤ L) (hn : 70 ≤ n) (hm : Cl M) (gt : Good 3 t) (hx : PyData.strOk x = true) (hy : PyData.strOk y = true) {d0 d1 d2 d3 e5 e7 e8 e10 e11 : Option D} :
    tc3 ⟨callN T.tab L n, L⟩ [d0, d1, d2, d3, some (.str x), e5, some (.str y), e7, e8, some (enc t), e10, e11, none] M = .ok (false, M) := by
  obtain ⟨k1, k2, k3, k4, k5⟩ := ok5
  have r1 := rep3 (M := M) hL gt (good_var hy) hx (n := n) (by omega) hm
  have r1' := rep3 (M := M) hL gt (good_var hy) hx (n := n - 1) (by omega) hm
  have r2 := rep3 (M := M) hL gt (good_var k1) k5 (n := n) (by omega) hm
  have r2' := rep3 (M := M) hL gt (good_var k1) k5 (n := n - 1) (by omega) hm
  have gr := good_ren (x := ("q" : Str)) gt k1
  have r3 := rep3 (M := M) hL gr (good_var k5) k2 (n := n) (by omega) hm
  have r3' := rep3 (M := M) hL gr (good_var k5) k2 (n := n - 1) (by omega) hm
  simp only [enc_shapes] at r1 r1' r2 r2' r3 r3'
  have q1 := ren1 hm (refs_enc _) r1'
  have q2 := ren2 hm (refs_enc _) r2' r3'
  rw [show n - 1 + 1 = n by omega] at q1 q2
  have g1 := good_ren (x := x) gt hy
  have g2 := good_ren (x := ("y" : Str)) gr k5
  have p1 := pl_mono (k := 64) (by have := g1.2.2.1; omega) (enc_pl g1.1 g1.2.1)
  have p2 := pl_mono (k := 64) (by have := g2.2.2.1; omega) (enc_pl g2.1 g2.2.1)
  have n1 := cpNe_pl (m := M) p1 p1
  have n2 := cpNe_pl (m := M) p2 p2
  rw [eqDb_refl] at n1 n2
  have s1 := disp1 (m := M) (x := x) (k := sVar 4) (w := sVar 6) (c := ⟨callN T.tab L n, L⟩) (ρ := [d0, d1, d2, d3, some (.str x), e5, some (.str y), e7, e8, some (enc t), e10, e11, none]) (e := .str y) rfl rfl
  have s2 := disp2 (m := M) (c := ⟨callN T.tab L n, L⟩) (ρ := [d0, d1, d2, d3, some (.str x), e5, some (.str y), e7, e8, some (enc t), e10, e11, none])
  unfold tc3
  simp only [ev, evd, evb, s1, q1, r1, n1, s2, q2, r2, r3, n2]
theorem tidy_eq (hw : WF t) (hw' : WF v) : eqDb (enc (tidyW t)) (enc (tidyW v)) = alk t v := by
  have e : eqDb (enc (tidyW t)) (enc (tidyW v)) = true ↔ alk t v = true := by
    rw [alk_iff hw hw', eqDb_iff, ← tidy_iff nextW_nx]
    exact ⟨fun q => enc_inj (wf_tidy hw) (wf_tidy hw') q, fun q => congrArg enc q⟩
  cases q : alk t v with
  | true => exact e.mpr q
  | false =>
    cases q' : eqDb (enc (tidyW t)) (enc (tidyW v)) with
    | true => rw [e.mp q'] at q; cases q
    | false => rfl
theorem c4_ok (hL : 20000 ≤ L) (hn : 70 ≤ n) (hm : Cl M) (gt : Good 3 t) (gv : Good 3 v) {d0 d1 d2 d3 e4 e5 e6 e7 e8 e10 : Option D} :
    tc4 ⟨callN T.tab L n, L⟩ [d0, d1, d2, d3, e4, e5, e6, e7, e8, some (enc t), e10, some (enc v), none] M = .ok (false, M) := by
  have ht1 := gt.2.2.1
  have ht2 := gv.2.2.1
  have hsT : sz t ≤ 66 := gt.2.2.2
  have hsV : sz v ≤ 66 := gv.2.2.2
  have h1 := same_ok (L := L) gt.1 gv.1 gt.2.1 gv.2.1 (by omega) (by omega) (n := n) (by omega) hm
  have h2 := alike_ok (L := L) gt.1 gv.1 gt.2.1 gv.2.1 (by omega) (by omega) (n := n) (by omega) hm
  have h3 := tidy_ok hL gt.1 gt.2.1 (by omega) (by omega) (n := n) (by omega) hm
  have h4 := tidy_ok hL gv.1 gv.2.1 (by omega) (by omega) (n := n) (by omega) hm
  have p1 := pl_mono (k := 64) (by rw [ht_tidy]; omega) (enc_pl (wf_tidy gt.1) (sok_tidy gt.2.1))
  have p2 := pl_mono (k := 64) (by rw [ht_tidy]; omega) (enc_pl (wf_tidy gv.1) (sok_tidy gv.2.1))
  have h5 := cpEq_pl (m := M) p1 p2
  rw [tidy_eq gt.1 gv.1] at h5
  have h6 : cpIs (.bl (alk t v)) (.bl true) M = some (alk t v) := by
    cases alk t v <;> rfl
  have h7 : cpNe (.bl (alk t v)) (.bl (alk t v)) M = some false := by
    rw [cpNe_bl]
    cases alk t v <;> rfl
  generalize alk t v = A at h1 h2 h5 h6 h7
  unfold tc4
  simp only [ev, evd, evb, h1, h2, h3, h4, h5, h6, h7]
theorem c5_ok (hL : 20000 ≤ L) (hn : 70 ≤ n) (hm : Cl M) (gt : Good 3 t) {d0 d1 d2 d3 e4 e5 e6 e7 e8 e10 e11 : Option D} :
    tc5 ⟨callN T.tab L n, L⟩ [d0, d1, d2, d3, e4, e5, e6, e7, e8, some (enc t), e10, e11, none] M = .ok (false, M) := by
  have ht1 := gt.2.2.1
  have hsT : sz t ≤ 66 := gt.2.2.2
  have wt := wf_tidy gt.1
  have st := sok_tidy gt.2.1
  have htt := ht_tidy t
  have hst := sz_tidy t
  have h1 := tidy_ok hL gt.1 gt.2.1 (by omega) (by omega) (n := n) (by omega) hm
  have h2 := alike_ok (L := L) wt gt.1 st gt.2.1 (by omega) (by omega) (n := n) (by omega) hm
  rw [(alk_iff wt gt.1).mpr (bare_tidy nextW_nx t)] at h2
  have h3 := tidy_ok hL wt st (by omega) (by omega) (n := n) (by omega) hm
  rw [show tidyW (tidyW t) = tidyW t from tidy_tidy nextW_nx t] at h3
  have p1 := pl_mono (k := 64) (by omega) (enc_pl wt st)
  have h4 := cpNe_pl (m := M) p1 p1
  rw [eqDb_refl] at h4
  have h5 := apartB_ok (L := L) wt st (by omega) (by omega) (n := n) (by omega) hm
  have hA : apartB (tidyW t) = true := by
    unfold apartB
    rw [dd_nodup (tidy_nodup nextW_nx t)]
    rw [show ((free (tidyW t)).any fun x => decide (x ∈ bnd (tidyW t))) = false from List.any_eq_false.mpr fun x hx => by
      simpa using tidy_apart nextW_nx t x hx]
    simp
  rw [hA] at h5
  have h6 : cpIsNot (.bl true) (.bl true) M = some false := rfl
  unfold tc5
  simp only [ev, evd, evb, h1, h2, h3, h4, h5, h6]
theorem c6_ok (hn : 70 ≤ n) (hm : Cl M) (gt : Good 3 t) {d0 d1 d2 d3 e4 e5 e6 e8 e10 e11 : Option D} :
    tc6 ⟨callN T.tab L n, L⟩ [d0, d1, d2, d3, e4, e5, e6, some (.lst ((bnd t).map D.str)), e8, some (enc t), e10, e11, none] M = .ok (false, M) := by
  have hLIM : LIM = 16777216 := rfl
  have ht1 := gt.2.2.1
  have hsT : sz t ≤ 66 := gt.2.2.2
  have hbl := bnd_len t
  have hfl := free_len t
  have h1 := bound_ok (L := L) 3 gt.1 ht1 (by omega) (n := n) (m := M) (by omega) hm
  have h2 := apartB_ok (L := L) gt.1 gt.2.1 (by omega) (by omega) (n := n) (by omega) hm
  have h3 := lfree_ok (L := L) 3 gt.1 ht1 (by omega) gt.2.1 (n := n) (m := M) (by omega) hm
  unfold lstS at h1 h3
  have hbn : ∀ x ∈ bnd t, PyData.strOk x = true := by
    have go : ∀ t : Tm, ∀ x ∈ bnd t, x ∈ allN t := by
      intro t
      induction t with
      | nil => intro x h; cases h
      | var y => intro x h; cases h
      | nd w a b bs c iha ihb ihc =>
        intro x h
        rw [bnd, List.mem_append, List.mem_append, List.mem_append] at h
        rw [mem_all]
        rcases h with h | h | h | h
        · exact .inr (.inl (iha x h))
        · exact .inr (.inr (.inl (ihb x h)))
        · exact .inl h
        · exact .inr (.inr (.inr (ihc x h)))
    exact fun x hx => gt.2.1 x (go t x hx)
  have pb := (strs_pl hbn).1
  have n1 := cpNe_pl (m := M) pb pb
  rw [eqDb_refl] at n1
  have hS := lenSet_ok (d := .lst ((bnd t).map D.str)) (m := M) (xs := bnd t) rfl (by omega)
  have hln : ((bnd t).map D.str).length = (bnd t).length := List.length_map _
  have hE := cpEq_int (m := M) (x := (((ddS (bnd t)).length : Nat) : Int)) (y := (((bnd t).length : Nat) : Int))
  have hC : compL (Fp.compTurn (.nm 12) (stCmp cpIn (sVar 12) (sVar 7)) (sVar 12) ⟨callN T.tab L n, L⟩ (wipeD [d0, d1, d2, d3, e4, e5, e6, some (.lst ((bnd t).map D.str)), e8, some (enc t), e10, e11, none] [12])) none ((free t).map D.str) ((free t).map D.str) M =
      .ok (((free t).filter fun x => decide (x ∈ bnd t)).map D.str, M) := by
    refine compL_filter (p := fun x => decide (x ∈ bnd t)) fun z hz => ?_
    have e : cpIn (.str z) (.lst ((bnd t).map D.str)) M = some (decide (z ∈ bnd t)) := cpIn_lstS
    unfold Fp.compTurn
    by_cases q : z ∈ bnd t
    · rw [decide_eq_true q] at e
      simp only [asgD, wipeD, ev, evd, evb, e]
      simp [q]
    · rw [decide_eq_false q] at e
      simp only [asgD, wipeD, ev, evd, evb, e]
      simp [q]
  have hfl2 : ((free t).filter fun x => decide (x ∈ bnd t)).length ≤ (free t).length := List.length_filter_le _ _
  have hM := mkL_lst (m := M) (ds := ((free t).filter fun x => decide (x ∈ bnd t)).map D.str) (by rw [List.length_map]; omega)
  have pf := (strs_pl (xs := (free t).filter fun x => decide (x ∈ bnd t)) fun z hz => gt.2.1 z (free_all (List.mem_filter.mp hz).1)).1
  have hq := cpEq_pl (m := M) pf (e := .lst []) rfl
  rw [show eqDb (.lst (((free t).filter fun x => decide (x ∈ bnd t)).map D.str)) (.lst []) = (((free t).filter fun x => decide (x ∈ bnd t)).map D.str).isEmpty from eqDs_nil, List.isEmpty_map, filter_any] at hq
  have hI : cpIs (.bl (apartB t)) (.bl true) M = some (apartB t) := by
    cases apartB t <;> rfl
  unfold apartB at h2 hI
  cases q : ((((ddS (bnd t)).length : Nat) : Int) == (((bnd t).length : Nat) : Int)) with
  | true =>
    rw [q, Bool.true_and] at h2 hI
    rw [q] at hE
    have n2 : cpNe (.bl (!(free t).any fun x => decide (x ∈ bnd t))) (.bl (!(free t).any fun x => decide (x ∈ bnd t))) M = some false := by
      rw [cpNe_bl]
      cases ((free t).any fun x => decide (x ∈ bnd t)) <;> rfl
    unfold tc6
    simp only [ev, evd, evb, h1, n1, h2, hI, hS, hln, hE, h3, hC, hM, hq, n2]
  | false =>
    rw [q, Bool.false_and] at h2 hI
    rw [q] at hE
    have n2 : cpNe (.bl false) (.bl false) M = some false := rfl
    unfold tc6
    simp only [ev, evd, evb, h1, n1, h2, hI, hS, hln, hE, n2]
theorem c7_ok (hL : 20000 ≤ L) (hn : 70 ≤ n) (hm : Cl M) (gt : Good 3 t) (gu : Good 2 u) (hx : PyData.strOk x = true) {d0 d1 d2 d3 e6 e7 e11 : Option D} :
    tc7 ⟨callN T.tab L n, L⟩ [d0, d1, d2, d3, some (.str x), some (enc (rpl fresh 3 t x u)), e6, e7, some (.tup [.str "app", .tup [.str "fun", .str x, enc t], enc u]), some (enc t), some (enc u), e11, none] M = .ok (false, M) := by
  have hF := found_good (x := x) gt gu
  have r1 := rep3 (M := M) hL gt gu hx (n := n - 2 + 1) (by omega) hm
  have s1 := stepped_app hm (refs_enc _) r1
  have s2 := stepped_let hm (refs_enc _) r1
  rw [show n - 2 + 2 = n by omega] at s1 s2
  have p1 := pl_mono (k := 64) (by omega) (enc_pl hF.1 hF.2.1)
  have n1 := cpNe_pl (m := M) p1 p1
  rw [eqDb_refl] at n1
  unfold tc7
  simp only [ev, evd, evb, s1, n1, s2]
end
end K05

set_option maxHeartbeats 4000000
/-! K05zz: the law -/
namespace K05
open PySem Fp L2
section
variable {L n i : Nat} {m : Mem} {ds : List Int}
def u3b : List Str := [("za" : Str), "r", "x"]
theorem in3b {x : Str} (h : x ∈ u3b) : PyData.strOk x = true := by
  simp only [u3b, List.mem_cons, List.not_mem_nil, or_false] at h
  rcases h with rfl | rfl | rfl <;> decide +kernel
theorem turn_ok (hL : 20000 ≤ L) (hn : 70 ≤ n) (hi : i < m.length) (hm : Cl m) {d : D} {d2 d3 f4 f5 f6 f7 f8 f9 f10 f11 : Option D} (a : Nat) :
    ∃ a' e4 e5 e6 e7 e8 e9 e10 e11, b_law_1 ⟨callN T.tab L n, L⟩ [some d, some (.ref i), d2, d3, f4, f5, f6, f7, f8, f9, f10, f11, none] (Wd m i ds a) = .ok (.nx [some d, some (.ref i), d2, d3, e4, e5, e6, e7, e8, e9, e10, e11, none], Wd m i ds a') := by
  obtain ⟨t, a1, gt, w1⟩ := wild_ok (L := L) (ds := ds) hi hm 3 a (n := n) (by omega)
  obtain ⟨u, a2, gu, w2⟩ := wild_ok (L := L) (ds := ds) hi hm 2 a1 (n := n) (by omega)
  obtain ⟨v, a3, gv, w3⟩ := wild_ok (L := L) (ds := ds) hi hm 3 a2 (n := n) (by omega)
  obtain ⟨x, hx, p1⟩ := pick_law (L := L) (n := n - 2) (a := a3) (ds := ds) (xs := n5) hi hm (by decide)
  obtain ⟨y, hy, p2⟩ := pick_law (L := L) (n := n - 2) (a := a3 + 1) (ds := ds) (xs := u3b) hi hm (by decide)
  rw [show n - 2 + 2 = n by omega] at p1 p2
  have hx := in5 hx
  have hy := in3b hy
  have h5 : ∀ m, mkL false [.str "x", .str "y", .str "za", .str "zb", .str "q"] m = .ok (.lst (n5.map D.str), m) := fun _ => by kernel_rfl
  have h3 : ∀ m, mkL false [.str "za", .str "r", .str "x"] m = .ok (.lst (u3b.map D.str), m) := fun _ => by kernel_rfl
  generalize n5.map D.str = X5 at p1 h5
  generalize u3b.map D.str = X3 at p2 h3
  have hc : ∀ a, Cl (Wd m i ds a) := fun a => Wd_cl hm
  have r1 := rep3 (n := n) hL gt gu hx (by omega) (hc (a3 + 1))
  have c1 := fun {e6 e7 e8 : Option D} => c1_ok (L := L) (v := v) (e6 := e6) (e7 := e7) (e8 := e8) (d0 := some d) (d1 := some (.ref i)) (d2 := d2) (d3 := d3) hn (hc (a3 + 1)) gt gu hx
  have c2 := fun {e6 e7 e8 : Option D} => c2_ok (L := L) (v := v) (e6 := e6) (e7 := e7) (e8 := e8) (d0 := some d) (d1 := some (.ref i)) (d2 := d2) (d3 := d3) hn (hc (a3 + 1)) gt gu hx
  have c3 := fun {e5 e7 e8 e10 e11 : Option D} => c3_ok (e5 := e5) (e7 := e7) (e8 := e8) (e10 := e10) (e11 := e11) (d0 := some d) (d1 := some (.ref i)) (d2 := d2) (d3 := d3) hL hn (hc (a3 + 1 + 1)) gt hx hy
  have c4 := fun {e4 e5 e6 e7 e8 e10 : Option D} => c4_ok (e4 := e4) (e5 := e5) (e6 := e6) (e7 := e7) (e8 := e8) (e10 := e10) (d0 := some d) (d1 := some (.ref i)) (d2 := d2) (d3 := d3) hL hn (hc (a3 + 1 + 1)) gt gv
  have c5 := fun {e4 e5 e6 e7 e8 e10 e11 : Option D} => c5_ok (e4 := e4) (e5 := e5) (e6 := e6) (e7 := e7) (e8 := e8) (e10 := e10) (e11 := e11) (d0 := some d) (d1 := some (.ref i)) (d2 := d2) (d3 := d3) hL hn (hc (a3 + 1 + 1)) gt
  have lb := lbound_ok (L := L) 3 gt.1 gt.2.2.1 (by have := gt.2.2.2; simp only [Sw] at this; omega) (n := n) (by omega) (hc (a3 + 1 + 1))
  unfold lstS at lb
  have c6 := fun {e4 e5 e6 e8 e10 e11 : Option D} => c6_ok (L := L) (e4 := e4) (e5 := e5) (e6 := e6) (e8 := e8) (e10 := e10) (e11 := e11) (d0 := some d) (d1 := some (.ref i)) (d2 := d2) (d3 := d3) hn (hc (a3 + 1 + 1)) gt
  have c7 := fun {e6 e7 e11 : Option D} => c7_ok (e6 := e6) (e7 := e7) (e11 := e11) (d0 := some d) (d1 := some (.ref i)) (d2 := d2) (d3 := d3) hL hn (hc (a3 + 1 + 1)) gt gu hx
  refine ⟨a3 + 1 + 1, some (.str x), some (enc (rpl fresh 3 t x u)), some (.str y), some (.lst ((bnd t).map D.str)), some (.tup [.str "app", .tup [.str "fun", .str x, enc t], enc u]), some (enc t), some (enc u), some (enc v), ?_⟩
  rw [show ((3 : Nat) : Int) = 3 from rfl] at w1 w3
  rw [show ((2 : Nat) : Int) = 2 from rfl] at w2
  rw [b_law_1_eq]
  simp only [ev, evd, evb, w1, w2, w3, h5, p1, r1, c1, c2, h3, p2, c3, c4, c5, lb, c6, c7]
def first0 : Tm := .nd "fun" .nil .nil ["y"] (.nd "app" (.var "x") .nil [] (.var "y"))
def first1 : Tm := .nd "fun" .nil .nil ["z"] (.nd "app" (.var "x") .nil [] (.var "z"))
def first2 : Tm := .nd "fun" .nil .nil ["za"] (.nd "app" (.var "y") .nil [] (.var "za"))
theorem za_eq : nmP zS 0 = ("za" : Str) := by
  unfold nmP
  rw [wd, if_pos (by omega)]
  decide +kernel
theorem fresh0 {tk : List Str} (h : ("za" : Str) ∉ tk) : fresh tk = ("za" : Str) := by
  unfold fresh
  rw [← za_eq] at h ⊢
  cases tk with
  | nil => rfl
  | cons y ys =>
    rw [List.length_cons, fst, if_neg h]
theorem first_put : rpl fresh 2 first0 "x" (.var "y") = first2 := by
  have m1 : ("x" : Str) ∈ free (.nd "fun" .nil .nil [("y" : Str)] (.nd "app" (.var "x") .nil [] (.var "y"))) := by decide +kernel
  have m2 : ("y" : Str) ∈ free (.nd "app" (.var "x") .nil [] (.var "y")) := by decide +kernel
  have m3 : ("x" : Str) ∈ free (.nd "app" (.var "x") .nil [] (.var "za")) := by decide +kernel
  have hf : ([("y" : Str)].find? fun y => decide (y ∈ free (.var "y"))) = some ("y" : Str) := by kernel_rfl
  have hfr : fresh (free (.var "y") ++ ss (allN (.nd "fun" .nil .nil [("y" : Str)] (.nd "app" (.var "x") .nil [] (.var "y")))) ++ [("y" : Str)]) = ("za" : Str) := by
    refine fresh0 ?_
    decide +kernel
  have e1 : rpl fresh 1 (.nd "app" (.var "x") .nil [] (.var "y")) "y" (.var "za") = Tm.nd "app" (.var "x") .nil [] (.var "za") := by
    rw [rpl, if_pos m2]
    kernel_rfl
  have e2 : rpl fresh 1 (.nd "app" (.var "x") .nil [] (.var "za")) "x" (.var "y") = Tm.nd "app" (.var "y") .nil [] (.var "za") := by
    rw [rpl, if_pos m3]
    kernel_rfl
  have hap : apt fresh (rpl fresh 1) "fun" .nil .nil (free (.var "y")) [("y" : Str)].length [("y" : Str)] (.nd "app" (.var "x") .nil [] (.var "y")) = ([("za" : Str)], Tm.nd "app" (.var "x") .nil [] (.var "za")) := by
    rw [List.length_singleton, apt, hf]
    dsimp only
    rw [hfr, e1]
    kernel_rfl
  unfold first0
  rw [rpl, if_pos m1, hap]
  dsimp only
  rw [if_neg (by decide +kernel), e2, rpl_nil]
  rfl
theorem wf0 : WF first0 := .fn (.app (.var _) (.var _))
theorem wf1 : WF first1 := .fn (.app (.var _) (.var _))
theorem wf2 : WF first2 := .fn (.app (.var _) (.var _))
theorem sok0 : Sok first0 := by
  unfold Sok
  decide +kernel
theorem sok1 : Sok first1 := by
  unfold Sok
  decide +kernel
theorem sok2 : Sok first2 := by
  unfold Sok
  decide +kernel
theorem law_ok (hL : 20000 ≤ L) (hn : 70 ≤ n) {d : D} {ns : List Int} (hd : ∀ m, itemsD d m = some (ns.map D.int)) (hlen : ∀ m, biLen d m = .ok (.int (ns.length : Int), m)) (hns : ns.length ≤ 63) :
    callN T.tab L (n + 1) "law" [d] [] = .ok (.bl true, []) := by
  obtain ⟨ds, hdr⟩ := draws_ok (L := L) (n := n - 1) (m := []) hd hlen hns Cl.nil
  rw [show n - 1 + 1 = n by omega] at hdr
  have hm0 : Cl [wO ds 0] := by
    have := Wd_cl (m := [.lst []]) (i := 0) (ds := ds) (a := 0) (Cl.nil.app (o := .lst []) rfl)
    exact this
  have loop := forL_cnt (t := .nm 2) (b := b_law_1) (c := ⟨callN T.tab L n, L⟩) (all := upto 0 12) (N := 12)
    (E := fun j ρ M => ∃ a o2 f4 f5 f6 f7 f8 f9 f10 f11, ρ = [some d, some (.ref 0), o2, none, f4, f5, f6, f7, f8, f9, f10, f11, none] ∧ M = Wd [wO ds 0] 0 ds a)
    (fun k j ρ M hk hE => by
      obtain ⟨a, o2, f4, f5, f6, f7, f8, f9, f10, f11, rfl, rfl⟩ := hE
      obtain ⟨a', e4, e5, e6, e7, e8, e9, e10, e11, h⟩ := turn_ok (L := L) (ds := ds) (m := [wO ds 0]) (i := 0) (d := d) (d2 := some (.int (k : Int))) (d3 := none) (f4 := f4) (f5 := f5) (f6 := f6) (f7 := f7) (f8 := f8) (f9 := f9) (f10 := f10) (f11 := f11) hL hn (by simp) hm0 a
      exact ⟨_, _, _, rfl, h, a', _, e4, e5, e6, e7, e8, e9, e10, e11, rfl, rfl⟩)
    (ρ := [some d, some (.ref 0), none, none, none, none, none, none, none, none, none, none, none]) (m := [wO ds 0])
    ⟨0, none, none, none, none, none, none, none, none, none, rfl, rfl⟩
  obtain ⟨ρ', M', h1, a, o2, f4, f5, f6, f7, f8, f9, f10, f11, rfl, rfl⟩ := loop
  have hc : Cl (Wd [wO ds 0] 0 ds a) := Wd_cl hm0
  have hR := ran_ok (a := sCons (sK (.int 12)) sNil) (c := ⟨callN T.tab L n, L⟩) (ρ := [some d, some (.ref 0), none, none, none, none, none, none, none, none, none, none, none]) (m := [wO ds 0]) (m' := [wO ds 0]) (k := 12) (by simp only [ev, evb]; rfl) (by omega)
  obtain ⟨k1, k2, k3, k4, k5⟩ := ok5
  have r1 := rep_ok hL (H := 2) (by omega) 2 (by omega) n (by omega) wf0 sok0 (by decide +kernel) (by decide +kernel) (.var ("y" : Str)) (sok_var.mpr k2) (Nat.zero_le _) (by decide +kernel) k1 hc
  rw [first_put] at r1
  have s1 := same_ok (L := L) wf0 wf1 sok0 sok1 (by decide +kernel) (by decide +kernel) (n := n) (by omega) hc
  rw [(alk_iff wf0 wf1).mpr (by kernel_rfl)] at s1
  have p2 := pl_mono (k := 64) (by decide +kernel) (enc_pl wf2 sok2)
  have q1 := cpEq_pl (m := Wd [wO ds 0] 0 ds a) p2 p2
  rw [eqDb_refl] at q1
  have i1 : ∀ m, cpIs (.bl true) (.bl true) m = some true := fun _ => rfl
  unfold first0 first2 at r1
  unfold first0 first1 at s1
  unfold first2 at q1
  simp only [enc_shapes] at r1 s1 q1
  have hdisp : sDisp true [((sK (.str ("draws" : Str))), (sCall ("_law_draws" : Str) (sCons (sVar 0) (sCons (sK (.int 700)) sNil)))), ((sK (.str ("at" : Str))), (sK (.int 0)))] ⟨callN T.tab L n, L⟩ [some d, none, none, none, none, none, none, none, none, none, none, none, none] [] = .ok (.ref 0, [wO ds 0]) := by
    have hv : (sCall ("_law_draws" : Str) (sCons (sVar 0) (sCons (sK (.int 700)) sNil))) ⟨callN T.tab L n, L⟩ [some d, none, none, none, none, none, none, none, none, none, none, none, none] [] = .ok (.lst (ds.map D.int), []) := by
      simp only [ev, evd, evb, hdr]
    generalize (sCall ("_law_draws" : Str) (sCons (sVar 0) (sCons (sK (.int 700)) sNil))) = V at hv ⊢
    unfold sDisp
    rw [if_pos (by simp)]
    unfold sPairs
    simp only [ev, evb, hv]
    have hM : dMerge [] [((Sum.inr ("draws" : Str) : Key), D.lst (ds.map D.int)), (.inr ("at" : Str), .int 0)] = kvW ds 0 := by
      show dPut [((Sum.inr ("draws" : Str) : Key), D.lst (ds.map D.int))] (.inr ("at" : Str)) (.int 0) = _
      unfold dPut kvW
      have h1 : decide ((Sum.inr ("draws" : Str) : Key) = .inr ("at" : Str)) = false := by decide +kernel
      have h2 : ¬ (Sum.inr ("draws" : Str) : Key) = .inr "at" := by decide +kernel
      simp [h1, h2]
    unfold sPairs
    simp only [ev, evb]
    unfold sPairs
    simp only [evb, keyD]
    rw [hM]
    rfl
  rw [callN_at tab_law rfl]
  refine fin_data (m := []) (l := Wd [wO ds 0] 0 ds a) ?_ Cl.nil rfl
  rw [List.nil_append]
  show m_law _ [some d, none, none, none, none, none, none, none, none, none, none, none, none] [] = _
  unfold m_law
  simp only [ev, evd, evb, hdisp, hR, h1, r1, q1, s1, i1]
theorem lawTrue : LawTrue T 71 100000 63 := by
  intro ns d hl hd
  refine ⟨[], law_ok (n := 70) (by omega) (by omega) (ns := ns) ?_ ?_ hl⟩
  · rcases hd with rfl | rfl
    · exact fun _ => rfl
    · exact fun _ => rfl
  · rcases hd with rfl | rfl
    · intro m
      show R.ok (D.int ((ns.map D.int).length : Int), m) = _
      rw [List.length_map]
    · intro m
      show R.ok (D.int ((ns.map D.int).length : Int), m) = _
      rw [List.length_map]
end
end K05
theorem PySem.Challenge.cw_writtenahead_k05_whole_names_never_catch_holds : PySem.Challenge.rw_writtenahead_k05_whole_names_never_catch.Holds :=
  K05.holds_of (n := 71) (L := 100000) ⟨rfl, by decide, by decide⟩ K05.lawTrue

