import PyProof.Rows.All
import Wide.All
import OpenK.AllK
import Wide.FinOn
import HandS.ForMost
import HandS.ForExc
import HandS.Lambda
import HandS.EndTab
import KE.KNestM
import HandS.IsInst
import HandS.TupAny
import HandS.TupLe
import HandS.SortInts
import HandS.Conv
import HandS.Text
import HandS.TryMany
import HandS.Style
import HandS.CallSlots
import HandS.SortRule
import PySem.Challenge.RW_heapyard_k04_trees_as_sets
set_option Elab.async false
set_option linter.all false
set_option maxRecDepth 100000
set_option autoImplicit false
/-! A functional reading over the hand layer: each piece of text is told by a function of plain data and a store. -/
namespace PF
open PySem L2

/-- plain data: tuples and frozen lists by their items, everything that changes by its number in the store -/
inductive D where
  | non | bl (b : Bool) | int (i : Int) | str (x : Str) | tup (xs : List D) | lst (xs : List D) | ref (n : Nat) | scr (ns : List Int)
/-- an object of the store -/
inductive O where
  | lst (xs : List D) | dic (kvs : List (Key × D)) | ins (C : Addr) (fs : List (Str × D)) | dead
abbrev So := List O
abbrev En := List (Option D)
/-- where the store's objects stand, and which lists are frozen -/
structure Wd where
  m : List Addr
  fz : Addr → Prop
  rs : Addr → Prop

/-- tables of code objects (of defs that make lambdas): where they stand, what the code objects are called -/
class Tab where
  T : List (Addr × Str)
/-- what the store may hold -/
def Mu : Option HO → Prop
  | some (.lst _) => True
  | some (.dK _) => True
  | some (.ins _ _ _) => True
  | _ => False
/-- there, and no table, no code object -/
def Nt (x : Option HO) : Prop := ∃ o, x = some o ∧ (∀ ps, o ≠ .tbl ps) ∧ ∀ f, o ≠ .ext f
section rel
variable (K : PySem.W.Frag) (W : Wd) (H : Hp)
/-- a list of the written part -/
def KL (a : Addr) (xs : List V) : Prop := ∃ (o : Obj) (its : Array Value) (n : Nat), K.lookup a = some o ∧ o.cls = .type "list" ∧ o.dict = none ∧ o.data = .seq its n ∧ its.size ≤ sizeLine ∧ Vals xs its.toList
def FzL (a : Addr) (xs : List V) : Prop := W.fz a ∧ H a = some (.lst xs)
mutual
def DRel : D → V → Prop
  | .non, v => v = .non
  | .bl b, v => v = .bl b
  | .int i, v => v = .int i
  | .str x, v => v = .str x
  | .tup ds, v => ∃ a vs, v = .ref a ∧ SqT K H a vs ∧ DRels ds vs
  | .lst ds, v => ∃ a vs, v = .ref a ∧ FzL W H a vs ∧ DRels ds vs
  | .ref n, v => ∃ a, v = .ref a ∧ W.m[n]? = some a
  | .scr ns, v => ∃ a, v = .ref a ∧ ((∃ o, H a = some (.frz o (.lst (ns.map V.int)))) ∨ KL K a (ns.map V.int) ∨ FzL W H a (ns.map V.int))
def DRels : List D → List V → Prop
  | [], vs => vs = []
  | d :: ds, vs => ∃ v r, vs = v :: r ∧ DRel d v ∧ DRels ds r
end
def KRel : List (Key × D) → List (Key × V) → Prop
  | [], vs => vs = []
  | (k, d) :: ds, vs => ∃ v r, vs = (k, v) :: r ∧ DRel K W H d v ∧ KRel ds r
def FRel : List (Str × D) → List (Str × V) → Prop
  | [], vs => vs = []
  | (k, d) :: ds, vs => ∃ v r, vs = (k, v) :: r ∧ DRel K W H d v ∧ FRel ds r
def ORel (a : Addr) : O → Prop
  | .lst ds => ∃ vs, H a = some (.lst vs) ∧ DRels K W H ds vs
  | .dic kvs => ∃ vs, H a = some (.dK vs) ∧ KRel K W H kvs vs
  | .ins C fs => ∃ dx vs, H a = some (.ins C dx vs) ∧ FRel K W H fs vs
  | .dead => True
structure SRel [Tab] (S : So) : Prop where
  tab : LamX.Tabs Tab.T H
  len : W.m.length = S.length
  inj : W.m.Nodup
  dom : ∀ (n : Nat) (a : Addr), W.m[n]? = some a → Mu (H a)
  fzd : ∀ a, W.fz a → Nt (H a)
  dis : ∀ (n : Nat) (a : Addr), W.m[n]? = some a → ¬ W.fz a
  rsd : ∀ a, W.rs a → Nt (H a) ∧ a ∉ W.m ∧ ¬ W.fz a
  obj : ∀ (n : Nat) (a : Addr) (o : O), W.m[n]? = some a → S[n]? = some o → ORel K W H a o
def ERel (en : En) (σ : St) : Prop := en.length = σ.length ∧ ∀ (i : Nat) d, en[i]? = some (some d) → ∃ v, σ[i]? = some (some v) ∧ DRel K W H d v
end rel
/-- later -/
structure Ext0 (K : PySem.W.Frag) (W : Wd) (H : Hp) (W' : Wd) (H' : Hp) : Prop where
  m : ∀ (n : Nat) (a : Addr), W.m[n]? = some a → W'.m[n]? = some a
  fz : ∀ a, W.fz a → W'.fz a
  tup : ∀ a vs, SqT K H a vs → SqT K H' a vs
  lst : ∀ a vs, W.fz a → H a = some (.lst vs) → H' a = some (.lst vs)
  scr : ∀ a o vs, H a = some (.frz o (.lst vs)) → H' a = some (.frz o (.lst vs))
/-- .. and what is reserved stands as it was -/
structure Ext (K : PySem.W.Frag) (W : Wd) (H : Hp) (W' : Wd) (H' : Hp) : Prop extends Ext0 K W H W' H' where
  rs : ∀ a, W.rs a → W'.rs a ∧ H' a = H a

section ext
variable {K : PySem.W.Frag} {W W' W1 W2 : Wd} {H H' H1 H2 : Hp}
theorem Ext0.refl : Ext0 K W H W H := ⟨fun _ _ h => h, fun _ h => h, fun _ _ h => h, fun _ _ _ h => h, fun _ _ _ h => h⟩
theorem Ext0.trans (a : Ext0 K W H W1 H1) (b : Ext0 K W1 H1 W2 H2) : Ext0 K W H W2 H2 :=
  ⟨fun n x h => b.m n x (a.m n x h), fun x h => b.fz x (a.fz x h), fun x vs h => b.tup x vs (a.tup x vs h), fun x vs f h => b.lst x vs (a.fz x f) (a.lst x vs f h), fun x o vs h => b.scr x o vs (a.scr x o vs h)⟩
theorem Ext.refl : Ext K W H W H := ⟨Ext0.refl, fun _ h => ⟨h, rfl⟩⟩
theorem Ext.trans (a : Ext K W H W1 H1) (b : Ext K W1 H1 W2 H2) : Ext K W H W2 H2 :=
  ⟨a.toExt0.trans b.toExt0, fun x h => ⟨(b.rs x (a.rs x h).1).1, (b.rs x (a.rs x h).1).2.trans (a.rs x h).2⟩⟩
theorem FzL.ext0 {a : Addr} {vs : List V} (e : Ext0 K W H W' H') (h : FzL W H a vs) : FzL W' H' a vs := ⟨e.fz _ h.1, e.lst _ _ h.1 h.2⟩
theorem FzL.sq {a : Addr} {vs : List V} (h : FzL W H a vs) : SqL K H a vs := .of h.2
mutual
theorem DRel.ext0 (e : Ext0 K W H W' H') : ∀ {d : D} {v : V}, DRel K W H d v → DRel K W' H' d v
  | .non, v, h => h
  | .bl _, v, h => h
  | .int _, v, h => h
  | .str _, v, h => h
  | .tup ds, v, h => by
    unfold DRel at h ⊢
    obtain ⟨a, vs, h1, h2, h3⟩ := h
    exact ⟨a, vs, h1, e.tup _ _ h2, DRels.ext0 e h3⟩
  | .lst ds, v, h => by
    unfold DRel at h ⊢
    obtain ⟨a, vs, h1, h2, h3⟩ := h
    exact ⟨a, vs, h1, h2.ext0 e, DRels.ext0 e h3⟩
  | .ref n, v, h => by
    unfold DRel at h ⊢
    obtain ⟨a, h1, h2⟩ := h
    exact ⟨a, h1, e.m _ _ h2⟩
  | .scr ns, v, h => by
    unfold DRel at h ⊢
    obtain ⟨a, h1, h2⟩ := h
    refine ⟨a, h1, ?_⟩
    rcases h2 with ⟨o, h2⟩ | h2 | h2
    · exact .inl ⟨o, e.scr _ _ _ h2⟩
    · exact .inr (.inl h2)
    · exact .inr (.inr ⟨e.fz _ h2.1, e.lst _ _ h2.1 h2.2⟩)
theorem DRels.ext0 (e : Ext0 K W H W' H') : ∀ {ds : List D} {vs : List V}, DRels K W H ds vs → DRels K W' H' ds vs
  | [], vs, h => h
  | d :: ds, vs, h => by
    unfold DRels at h ⊢
    obtain ⟨v, r, h1, h2, h3⟩ := h
    exact ⟨v, r, h1, DRel.ext0 e h2, DRels.ext0 e h3⟩
end
theorem KRel.ext0 (e : Ext0 K W H W' H') : ∀ {ds : List (Key × D)} {vs : List (Key × V)}, KRel K W H ds vs → KRel K W' H' ds vs
  | [], vs, h => h
  | (k, d) :: ds, vs, h => by
    unfold KRel at h ⊢
    obtain ⟨v, r, h1, h2, h3⟩ := h
    exact ⟨v, r, h1, DRel.ext0 e h2, KRel.ext0 e h3⟩
theorem FRel.ext0 (e : Ext0 K W H W' H') : ∀ {ds : List (Str × D)} {vs : List (Str × V)}, FRel K W H ds vs → FRel K W' H' ds vs
  | [], vs, h => h
  | (k, d) :: ds, vs, h => by
    unfold FRel at h ⊢
    obtain ⟨v, r, h1, h2, h3⟩ := h
    exact ⟨v, r, h1, DRel.ext0 e h2, FRel.ext0 e h3⟩
theorem ERel.ext0 {en : En} {σ : St} (e : Ext0 K W H W' H') (h : ERel K W H en σ) : ERel K W' H' en σ :=
  ⟨h.1, fun i d hi => (h.2 i d hi).imp fun v hv => ⟨hv.1, hv.2.ext0 e⟩⟩
theorem FzL.ext {a : Addr} {vs : List V} (e : Ext K W H W' H') (h : FzL W H a vs) : FzL W' H' a vs := h.ext0 e.toExt0
theorem DRel.ext {d : D} {v : V} (e : Ext K W H W' H') (h : DRel K W H d v) : DRel K W' H' d v := h.ext0 e.toExt0
theorem DRels.ext {d : List D} {v : List V} (e : Ext K W H W' H') (h : DRels K W H d v) : DRels K W' H' d v := h.ext0 e.toExt0
theorem KRel.ext {d : List (Key × D)} {v : List (Key × V)} (e : Ext K W H W' H') (h : KRel K W H d v) : KRel K W' H' d v := h.ext0 e.toExt0
theorem FRel.ext {d : List (Str × D)} {v : List (Str × V)} (e : Ext K W H W' H') (h : FRel K W H d v) : FRel K W' H' d v := h.ext0 e.toExt0
theorem ERel.ext {en : En} {σ : St} (e : Ext K W H W' H') (h : ERel K W H en σ) : ERel K W' H' en σ := h.ext0 e.toExt0
theorem ERel.set {en : En} {σ : St} {i : Nat} {d : D} {v : V} (h : ERel K W H en σ) (r : DRel K W H d v) : ERel K W H (en.set i (some d)) (σ.set i (some v)) := by
  refine ⟨by rw [List.length_set, List.length_set]; exact h.1, fun j e hj => ?_⟩
  by_cases c : i = j
  · subst c
    by_cases hl : i < en.length
    · rw [List.getElem?_set_self hl] at hj
      cases hj
      exact ⟨v, List.getElem?_set_self (by rw [← h.1]; exact hl), r⟩
    · rw [List.getElem?_eq_none (by rw [List.length_set]; omega)] at hj
      cases hj
  · rw [List.getElem?_set_ne c] at hj ⊢
    exact h.2 j e hj
theorem ERel.clear {en : En} {σ : St} {i : Nat} (h : ERel K W H en σ) : ERel K W H (en.set i none) (σ.set i none) := by
  refine ⟨by rw [List.length_set, List.length_set]; exact h.1, fun j e hj => ?_⟩
  by_cases c : i = j
  · subst c
    by_cases hl : i < en.length
    · rw [List.getElem?_set_self hl] at hj; cases hj
    · rw [List.getElem?_eq_none (by rw [List.length_set]; omega)] at hj; cases hj
  · rw [List.getElem?_set_ne c] at hj ⊢
    exact h.2 j e hj
theorem ERel.wipe {en : En} {σ : St} (h : ERel K W H en σ) : ∀ vs : List Nat, ∃ en', ERel K W H en' (wipe σ vs)
  | [] => ⟨en, h⟩
  | v :: vs => by
    obtain ⟨en', h'⟩ := ERel.wipe h vs
    exact ⟨en'.set v none, h'.clear⟩
theorem DRels.length : ∀ {ds : List D} {vs : List V}, DRels K W H ds vs → ds.length = vs.length
  | [], vs, h => by unfold DRels at h; subst h; rfl
  | d :: ds, vs, h => by
    unfold DRels at h
    obtain ⟨v, r, rfl, _, h3⟩ := h
    simp [DRels.length h3]
theorem DRels.get : ∀ {ds : List D} {vs : List V}, DRels K W H ds vs → ∀ {i : Nat} {d : D}, ds[i]? = some d → ∃ v, vs[i]? = some v ∧ DRel K W H d v
  | [], vs, h, i, d, e => by simp at e
  | d :: ds, vs, h, 0, d', e => by
    unfold DRels at h
    obtain ⟨v, r, rfl, h2, h3⟩ := h
    simp at e; subst e
    exact ⟨v, rfl, h2⟩
  | d :: ds, vs, h, i + 1, d', e => by
    unfold DRels at h
    obtain ⟨v, r, rfl, h2, h3⟩ := h
    simpa using DRels.get h3 (i := i) (d := d') (by simpa using e)
theorem DRels.cons {d : D} {ds : List D} {v : V} {vs : List V} (h : DRel K W H d v) (hs : DRels K W H ds vs) : DRels K W H (d :: ds) (v :: vs) := by
  unfold DRels
  exact ⟨v, vs, rfl, h, hs⟩
theorem DRels.nil : DRels K W H [] [] := by unfold DRels; rfl
theorem DRels.append : ∀ {ds es : List D} {vs us : List V}, DRels K W H ds vs → DRels K W H es us → DRels K W H (ds ++ es) (vs ++ us)
  | [], es, vs, us, h, h' => by unfold DRels at h; subst h; exact h'
  | d :: ds, es, vs, us, h, h' => by
    unfold DRels at h
    obtain ⟨v, r, rfl, h2, h3⟩ := h
    exact DRels.cons h2 (DRels.append h3 h')
theorem DRels.take : ∀ {ds : List D} {vs : List V} (n : Nat), DRels K W H ds vs → DRels K W H (ds.take n) (vs.take n)
  | ds, vs, 0, h => by simp; exact DRels.nil
  | [], vs, n + 1, h => by unfold DRels at h; subst h; exact DRels.nil
  | d :: ds, vs, n + 1, h => by
    unfold DRels at h
    obtain ⟨v, r, rfl, h2, h3⟩ := h
    exact DRels.cons h2 (DRels.take n h3)
theorem DRels.drop : ∀ {ds : List D} {vs : List V} (n : Nat), DRels K W H ds vs → DRels K W H (ds.drop n) (vs.drop n)
  | ds, vs, 0, h => by simpa using h
  | [], vs, n + 1, h => by unfold DRels at h; subst h; exact DRels.nil
  | d :: ds, vs, n + 1, h => by
    unfold DRels at h
    obtain ⟨v, r, rfl, h2, h3⟩ := h
    simpa using DRels.drop n h3
theorem DRels.set {d : D} {v : V} (q : DRel K W H d v) : ∀ {ds : List D} {vs : List V} (n : Nat), DRels K W H ds vs → DRels K W H (ds.set n d) (vs.set n v)
  | [], vs, n, h => by unfold DRels at h; subst h; exact DRels.nil
  | e :: ds, vs, 0, h => by
    unfold DRels at h
    obtain ⟨v', r, rfl, h2, h3⟩ := h
    exact DRels.cons q h3
  | e :: ds, vs, n + 1, h => by
    unfold DRels at h
    obtain ⟨v', r, rfl, h2, h3⟩ := h
    exact DRels.cons h2 (DRels.set q n h3)
theorem DRels.reverse : ∀ {ds : List D} {vs : List V}, DRels K W H ds vs → DRels K W H ds.reverse vs.reverse
  | [], vs, h => by unfold DRels at h; subst h; exact DRels.nil
  | d :: ds, vs, h => by
    unfold DRels at h
    obtain ⟨v, r, rfl, h2, h3⟩ := h
    rw [List.reverse_cons, List.reverse_cons]
    exact DRels.append (DRels.reverse h3) (DRels.cons h2 DRels.nil)
theorem DRels.eraseIdx : ∀ {ds : List D} {vs : List V} (n : Nat), DRels K W H ds vs → DRels K W H (ds.eraseIdx n) (vs.eraseIdx n)
  | [], vs, n, h => by unfold DRels at h; subst h; exact DRels.nil
  | e :: ds, vs, 0, h => by
    unfold DRels at h
    obtain ⟨v', r, rfl, h2, h3⟩ := h
    exact h3
  | e :: ds, vs, n + 1, h => by
    unfold DRels at h
    obtain ⟨v', r, rfl, h2, h3⟩ := h
    exact DRels.cons h2 (DRels.eraseIdx n h3)
theorem DRels.dropLast {ds : List D} {vs : List V} (h : DRels K W H ds vs) : DRels K W H ds.dropLast vs.dropLast := by
  rw [List.dropLast_eq_take, List.dropLast_eq_take, h.length]
  exact h.take _
theorem DRels.rep {ds : List D} {vs : List V} (h : DRels K W H ds vs) : ∀ k : Nat, DRels K W H (List.replicate k ds).flatten (List.replicate k vs).flatten
  | 0 => DRels.nil
  | k + 1 => by
    rw [List.replicate_succ, List.replicate_succ, List.flatten_cons, List.flatten_cons]
    exact DRels.append h (DRels.rep h k)
theorem DRels.ints : ∀ (ns : List Int), DRels K W H (ns.map D.int) (ns.map V.int)
  | [] => DRels.nil
  | n :: ns => DRels.cons (by unfold DRel; rfl) (DRels.ints ns)
theorem DRels.ints_of : ∀ {ns : List Int} {vs : List V}, DRels K W H (ns.map D.int) vs → vs = ns.map V.int
  | [], vs, h => by simp only [List.map_nil] at h; unfold DRels at h; exact h
  | n :: ns, vs, h => by
    simp only [List.map_cons] at h
    unfold DRels at h
    obtain ⟨v, r, rfl, h2, h3⟩ := h
    unfold DRel at h2
    rw [h2, DRels.ints_of h3, List.map_cons]
end ext
end PF

namespace PF
open PySem L2
/-! ### the store changes -/
section store
variable [Tab] {K : PySem.W.Frag} {W W' : Wd} {H : Hp} {S : So} {p a : Addr} {o : HO} {n : Nat} {ob : O}
theorem mu_nt {x : Option HO} (h : Mu x) : Nt x := by
  cases x with
  | none => exact h.elim
  | some o => exact ⟨o, rfl, fun ps q => by subst q; exact h, fun f q => by subst q; exact h⟩
theorem Mu.mut {x : Option HO} (h : Mu x) : Mut x := by
  cases x with
  | none => exact h.elim
  | some o => cases o <;> first | exact trivial | exact h.elim
theorem tabs_more {T : List (Addr × Str)} (t : LamX.Tabs T H) (hp : H p = none) : LamX.Tabs T (upd H p o) := t.ext fun b u h => by rw [upd_ne (ne_of_none h hp)]; exact h
theorem tabs_upd {T : List (Addr × Str)} (t : LamX.Tabs T H) (ha : Nt (H a)) : LamX.Tabs T (upd H a o) := fun q hq => by
  obtain ⟨ps, h1, h2, h3⟩ := t q hq
  obtain ⟨u, u1, u2, u3⟩ := ha
  have ne : ∀ {b : Addr} {v : HO}, H b = some v → v ≠ u → b ≠ a := fun {b v} e n z => by subst z; rw [u1] at e; exact n (Option.some.inj e).symm
  refine ⟨ps, by rw [upd_ne (ne h1 fun z => u2 ps z.symm)]; exact h1, h2, fun pos cv hc => ?_⟩
  obtain ⟨c, e1, e2⟩ := h3 pos cv hc
  exact ⟨c, e1, by rw [upd_ne (ne e2 fun z => u3 _ z.symm)]; exact e2⟩
theorem sqT_upd {b : Addr} {vs : List V} (hp : H p = none) (h : SqT K H b vs) : SqT K (upd H p o) b vs := by
  rcases h with (h | ⟨u, h⟩) | h
  · exact .inl (.inl (by rw [upd_ne (ne_of_none h hp)]; exact h))
  · exact .inl (.inr ⟨u, by rw [upd_ne (ne_of_none h hp)]; exact h⟩)
  · exact .inr h
theorem rd_upd {b : Addr} {u : HO} (hp : H p = none) (h : Rd H b u) : Rd (upd H p o) b u := by
  rcases h with h | ⟨x, h⟩
  · exact .inl (by rw [upd_ne (ne_of_none h hp)]; exact h)
  · exact .inr ⟨x, by rw [upd_ne (ne_of_none h hp)]; exact h⟩
theorem ext_fresh (hp : H p = none) (hm : ∀ (n : Nat) (a : Addr), W.m[n]? = some a → W'.m[n]? = some a) (hf : ∀ a, W.fz a → W'.fz a) : Ext0 K W H W' (upd H p o) :=
  ⟨hm, hf, fun _ _ h => sqT_upd hp h, fun _ _ _ h => by rw [upd_ne (ne_of_none h hp)]; exact h, fun _ _ _ h => by rw [upd_ne (ne_of_none h hp)]; exact h⟩
theorem ORel.ext {W' : Wd} {H' : Hp} (e : Ext0 K W H W' H') (hH : H' a = H a) : ∀ {ob : O}, ORel K W H a ob → ORel K W' H' a ob
  | .lst ds, ⟨vs, h1, h2⟩ => ⟨vs, by rw [hH]; exact h1, h2.ext0 e⟩
  | .dic ds, ⟨vs, h1, h2⟩ => ⟨vs, by rw [hH]; exact h1, h2.ext0 e⟩
  | .ins C fs, ⟨dx, vs, h1, h2⟩ => ⟨dx, vs, by rw [hH]; exact h1, h2.ext0 e⟩
  | .dead, _ => trivial
theorem SRel.ne (s : SRel K W H S) (hp : H p = none) (hn : W.m[n]? = some a) : a ≠ p := by
  obtain ⟨o, h, _⟩ := mu_nt (s.dom n a hn)
  exact ne_of_none h hp
theorem SRel.fzne (s : SRel K W H S) (hp : H p = none) (hn : W.fz a) : a ≠ p := by
  obtain ⟨o, h, _⟩ := s.fzd a hn
  exact ne_of_none h hp
theorem SRel.rsne (s : SRel K W H S) (hp : H p = none) (hn : W.rs a) : a ≠ p := by
  obtain ⟨⟨o, h, _⟩, _⟩ := s.rsd a hn
  exact ne_of_none h hp
/-- a new thing that the world does not name -/
theorem SRel.more (s : SRel K W H S) (hp : H p = none) : SRel K W (upd H p o) S where
  tab := tabs_more s.tab hp
  len := s.len
  inj := s.inj
  dom := fun n a h => by rw [upd_ne (s.ne hp h)]; exact s.dom n a h
  fzd := fun a h => by rw [upd_ne (s.fzne hp h)]; exact s.fzd a h
  dis := s.dis
  rsd := fun a h => by rw [upd_ne (s.rsne hp h)]; exact s.rsd a h
  obj := fun n a ob h h' => (s.obj n a ob h h').ext (ext_fresh hp (fun _ _ q => q) fun _ q => q) (upd_ne (s.ne hp h))
def Wd.frz (W : Wd) (p : Addr) : Wd := ⟨W.m, fun a => W.fz a ∨ a = p, W.rs⟩
def Wd.add (W : Wd) (p : Addr) : Wd := ⟨W.m ++ [p], W.fz, W.rs⟩
theorem rs_fresh (s : SRel K W H S) (hp : H p = none) : ∀ a, W.rs a → W.rs a ∧ upd H p o a = H a := fun a h => ⟨h, upd_ne (s.rsne hp h)⟩
theorem ext_frz (s : SRel K W H S) (hp : H p = none) : Ext K W H (W.frz p) (upd H p o) := ⟨ext_fresh hp (fun _ _ q => q) fun _ q => .inl q, rs_fresh s hp⟩
theorem ext_add (s : SRel K W H S) (hp : H p = none) : Ext K W H (W.add p) (upd H p o) := ⟨ext_fresh hp (fun n a q => by
  show (W.m ++ [p])[n]? = _
  rw [List.getElem?_append_left (List.getElem?_eq_some_iff.mp q).1]; exact q) fun _ q => q, rs_fresh s hp⟩
theorem ext_more (s : SRel K W H S) (hp : H p = none) : Ext K W H W (upd H p o) := ⟨ext_fresh hp (fun _ _ q => q) fun _ q => q, rs_fresh s hp⟩
/-- a new list, frozen -/
theorem SRel.frz {vs : List V} (s : SRel K W H S) (hp : H p = none) : SRel K (W.frz p) (upd H p (.lst vs)) S where
  tab := tabs_more s.tab hp
  len := s.len
  inj := s.inj
  dom := fun n a h => by rw [upd_ne (s.ne hp h)]; exact s.dom n a h
  fzd := fun a h => by
    rcases h with h | rfl
    · rw [upd_ne (s.fzne hp h)]; exact s.fzd a h
    · exact ⟨_, upd_same, (fun ps q => by cases q), (fun f q => by cases q)⟩
  dis := fun n a h q => by
    rcases q with q | rfl
    · exact s.dis n a h q
    · exact s.ne hp h rfl
  rsd := fun a h => by
    rw [upd_ne (s.rsne hp h)]
    exact ⟨(s.rsd a h).1, (s.rsd a h).2.1, fun q => q.elim (s.rsd a h).2.2 (s.rsne hp h)⟩
  obj := fun n a ob h h' => (s.obj n a ob h h').ext (ext_frz s hp).toExt0 (upd_ne (s.ne hp h))
theorem drel_frz {ds : List D} {vs : List V} (s : SRel K W H S) (hp : H p = none) (h : DRels K W H ds vs) : DRel K (W.frz p) (upd H p (.lst vs)) (.lst ds) (.ref p) := by
  unfold DRel
  exact ⟨p, vs, rfl, ⟨.inr rfl, upd_same⟩, h.ext (ext_frz s hp)⟩
theorem drel_tup {ds : List D} {vs : List V} (s : SRel K W H S) (hp : H p = none) (h : DRels K W H ds vs) : DRel K W (upd H p (.tup vs)) (.tup ds) (.ref p) := by
  unfold DRel
  exact ⟨p, vs, rfl, .inl (.inl upd_same), h.ext (ext_more s hp)⟩
/-- a new object of the store -/
theorem SRel.new (s : SRel K W H S) (hp : H p = none) (hm : Mu (some o)) (h : ORel K (W.add p) (upd H p o) p ob) : SRel K (W.add p) (upd H p o) (S ++ [ob]) where
  tab := tabs_more s.tab hp
  len := by show (W.m ++ [p]).length = _; simp [s.len]
  inj := by
    show (W.m ++ [p]).Nodup
    rw [List.nodup_append]
    refine ⟨s.inj, by simp, ?_⟩
    intro a ha b hb
    simp at hb; subst hb
    obtain ⟨n, hn⟩ := List.getElem?_of_mem ha
    exact s.ne hp hn
  dom := fun n a h => by
    have h : (W.m ++ [p])[n]? = some a := h
    by_cases c : n < W.m.length
    · rw [List.getElem?_append_left c] at h
      rw [upd_ne (s.ne hp h)]; exact s.dom n a h
    · rw [List.getElem?_append_right (by omega)] at h
      have : a = p := by
        cases e : n - W.m.length with
        | zero => rw [e] at h; simpa using h.symm
        | succ k => rw [e] at h; simp at h
      subst this
      rw [upd_same]; exact hm
  fzd := fun a h => by rw [upd_ne (s.fzne hp h)]; exact s.fzd a h
  dis := fun n a h q => by
    have h : (W.m ++ [p])[n]? = some a := h
    by_cases c : n < W.m.length
    · rw [List.getElem?_append_left c] at h
      exact s.dis n a h q
    · rw [List.getElem?_append_right (by omega)] at h
      have : a = p := by
        cases e : n - W.m.length with
        | zero => rw [e] at h; simpa using h.symm
        | succ k => rw [e] at h; simp at h
      subst this
      exact s.fzne hp q rfl
  rsd := fun a h => by
    rw [upd_ne (s.rsne hp h)]
    refine ⟨(s.rsd a h).1, fun q => ?_, (s.rsd a h).2.2⟩
    rcases List.mem_append.mp (show a ∈ W.m ++ [p] from q) with q | q
    · exact (s.rsd a h).2.1 q
    · exact s.rsne hp h (by simpa using q)
  obj := fun n a ob' h0 h' => by
    have h0 : (W.m ++ [p])[n]? = some a := h0
    by_cases c : n < W.m.length
    · rw [List.getElem?_append_left c] at h0
      rw [List.getElem?_append_left (by rw [← s.len]; exact c)] at h'
      exact (s.obj n a ob' h0 h').ext (ext_add s hp).toExt0 (upd_ne (s.ne hp h0))
    · rw [List.getElem?_append_right (by omega)] at h0
      rw [List.getElem?_append_right (by rw [← s.len]; omega)] at h'
      cases e : n - W.m.length with
      | zero =>
        rw [e] at h0; rw [← s.len, e] at h'
        simp at h0 h'; subst h0; subst h'
        exact h
      | succ k => rw [e] at h0; simp at h0
theorem drel_add (s : SRel K W H S) {H' : Hp} : DRel K (W.add p) H' (.ref S.length) (.ref p) := by
  unfold DRel
  refine ⟨p, rfl, ?_⟩
  show (W.m ++ [p])[S.length]? = _
  rw [← s.len]; simp
/-- an object of the store changes -/
theorem ext_upd0 (s : SRel K W H S) (hn : W.m[n]? = some a) : Ext0 K W H W (upd H a o) where
  m := fun _ _ q => q
  fz := fun _ q => q
  tup := fun b vs h => by
    have hm := s.dom n a hn
    rcases h with (h | ⟨u, h⟩) | h
    · refine .inl (.inl ?_)
      rw [upd_ne (by rintro rfl; rw [h] at hm; exact hm)]; exact h
    · refine .inl (.inr ⟨u, ?_⟩)
      rw [upd_ne (by rintro rfl; rw [h] at hm; exact hm)]; exact h
    · exact .inr h
  lst := fun b vs f h => by
    have hb : b ≠ a := by rintro rfl; exact s.dis n _ hn f
    rw [upd_ne hb]; exact h
  scr := fun b o vs h => by
    have hm := s.dom n a hn
    rw [upd_ne (by rintro rfl; rw [h] at hm; exact hm)]; exact h
theorem ext_upd (s : SRel K W H S) (hn : W.m[n]? = some a) : Ext K W H W (upd H a o) :=
  ⟨ext_upd0 s hn, fun b h => ⟨h, upd_ne (by rintro rfl; exact (s.rsd _ h).2.1 (List.mem_of_getElem? hn))⟩⟩
theorem SRel.upd (s : SRel K W H S) (hn : W.m[n]? = some a) (hm : Mu (some o)) (h : ORel K W (L2.upd H a o) a ob) : SRel K W (L2.upd H a o) (S.set n ob) where
  tab := tabs_upd s.tab (mu_nt (s.dom n a hn))
  len := by rw [List.length_set]; exact s.len
  inj := s.inj
  dom := fun k b hb => by
    by_cases c : b = a
    · subst c; rw [upd_same]; exact hm
    · rw [upd_ne c]; exact s.dom k b hb
  fzd := fun b f => by
    have hb : b ≠ a := by rintro rfl; exact s.dis n _ hn f
    rw [upd_ne hb]; exact s.fzd b f
  dis := s.dis
  rsd := fun b hb => by
    rw [upd_ne (by rintro rfl; exact (s.rsd _ hb).2.1 (List.mem_of_getElem? hn))]; exact s.rsd b hb
  obj := fun k b ob' hb h' => by
    by_cases c : k = n
    · subst c
      have e : b = a := by rw [hn] at hb; exact (Option.some.inj hb).symm
      subst e
      have hl : k < S.length := by rw [← s.len]; exact (List.getElem?_eq_some_iff.mp hb).1
      rw [List.getElem?_set_self hl] at h'
      cases h'
      exact h
    · rw [List.getElem?_set_ne (fun q => c q.symm)] at h'
      have hne : b ≠ a := by
        rintro rfl
        exact c ((List.getElem_inj s.inj).mp ((List.getElem?_eq_some_iff.mp hb).2.trans (List.getElem?_eq_some_iff.mp hn).2.symm))
      exact (s.obj k b ob' hb h').ext (ext_upd0 s hn) (upd_ne hne)
theorem SRel.at (s : SRel K W H S) (h : S[n]? = some ob) : ∃ a, W.m[n]? = some a ∧ ORel K W H a ob := by
  have hl : n < W.m.length := by rw [s.len]; exact (List.getElem?_eq_some_iff.mp h).1
  exact ⟨_, List.getElem?_eq_getElem hl, s.obj n _ ob (List.getElem?_eq_getElem hl) h⟩
end store

/-! ### results -/
inductive Rs (α : Type) where
  | ok (a : α) (S : So) | ex (C : Addr) (S : So) | no
def Rs.bind {α β : Type} : Rs α → (α → So → Rs β) → Rs β
  | .ok a S, k => k a S
  | .ex C S, _ => .ex C S
  | .no, _ => .no
inductive Fl where
  | nx (e : En) (S : So) | rt (d : D) (S : So) | bk (e : En) (S : So) | ct (e : En) (S : So) | ex (C : Addr) (e : En) (S : So) | no
abbrev FE := En → So → Rs D
abbrev FT := En → So → Rs Bool
abbrev FA := En → So → Rs (List D)
abbrev FS := En → So → Fl

section post
variable [Tab] (K : PySem.W.Frag)
def Post {α β : Type} (R : PySem.W.Frag → Wd → Hp → α → β → Prop) (W : Wd) (H : Hp) (r : Rs α) (Q : β → Hp → Prop) (E : XK) : Prop := match r with
  | .ok a S => ∀ W' H' b, Ext K W H W' H' → SRel K W' H' S → R K W' H' a b → Q b H'
  | .ex C S => ∀ W' H' d, Ext K W H W' H' → SRel K W' H' S → E (.ref C) d H'
  | .no => False
def PostS (W : Wd) (H : Hp) (r : Fl) (Z : Ends) (Wx : WX) : Prop := match r with
  | .nx e S => ∀ W' H' σ, Ext K W H W' H' → SRel K W' H' S → ERel K W' H' e σ → Z.nx σ H'
  | .rt d S => ∀ W' H' v, Ext K W H W' H' → SRel K W' H' S → DRel K W' H' d v → Z.rt v H'
  | .bk e S => ∀ W' H' σ, Ext K W H W' H' → SRel K W' H' S → ERel K W' H' e σ → Z.bk σ H'
  | .ct e S => ∀ W' H' σ, Ext K W H W' H' → SRel K W' H' S → ERel K W' H' e σ → Z.ct σ H'
  | .ex C e S => ∀ W' H' σ d, Ext K W H W' H' → SRel K W' H' S → ERel K W' H' e σ → Wx (.ref C) d σ H'
  | .no => False
end post
end PF

namespace PF
open PySem L2
variable [Tab]
/-! ### the weakest readings -/
section weak
variable (X : Cx)
def wE (e : Expr) : TE := fun σ H Q => ∀ (pins : List (Addr × Obj)) (s : Shared), Inv X pins σ H s → wpAny (model X.prog X.w) X.A (eval e X.env) (EP X pins σ Q) X.xe s
def wT (e : Expr) : TT := fun σ H Q => ∀ (pins : List (Addr × Obj)) (s : Shared), Inv X pins σ H s → wpAny (model X.prog X.w) X.A (isTrue e X.env (eval e X.env)) (TP X pins σ Q) X.xe s
def wW (e : Expr) : TT := fun σ H Q => ∀ (whole : Sem Value) (pins : List (Addr × Obj)) (s : Shared), Inv X pins σ H s → wpAny (model X.prog X.w) X.A (isTrue e X.env whole) (TP X pins σ Q) X.xe s
def wA (es : List Expr) : TA := fun σ H Q => ∀ (pos : Pos) (pins : List (Addr × Obj)) (s : Shared), Inv X pins σ H s → wpAny (model X.prog X.w) X.A (spliced (backTo pos (starEach es X.env))) (AP X pins σ Q) X.xe s
def wS (st : Stmt) : TS := fun Z σ H => ∀ (pins : List (Addr × Obj)) (s : Shared), Inv X pins σ H s → wpAny (model X.prog X.w) X.A (exec st X.env) (SP X pins Z) X.xe s
def wSs (st : List Stmt) : TS := fun Z σ H => ∀ (pins : List (Addr × Obj)) (s : Shared), Inv X pins σ H s → wpAny (model X.prog X.w) X.A (execs st X.env) (SP X pins Z) X.xe s
def wG (tg : Expr) : TG := fun v σ H Q => ∀ (pins : List (Addr × Obj)) (s : Shared) (u : Value), Inv X pins σ H s → RelV v u → wpAny (model X.prog X.w) X.A (assign tg X.env u) (fun _ s' => ∃ σ' H', Inv X pins σ' H' s' ∧ Q σ' H') X.xe s
def wGs (ts : List Expr) : TGs := fun vs σ H Q => ∀ (pins : List (Addr × Obj)) (s : Shared) (us : List Value), Inv X pins σ H s → Vals vs us → wpAny (model X.prog X.w) X.A (assignInOrder ((assignEach ts X.env).map (·.2)) us) (fun _ s' => ∃ σ' H', Inv X pins σ' H' s' ∧ Q σ' H') X.xe s
def wI (tg iter : Expr) : TI := fun σ H R => ∀ (pins : List (Addr × Obj)) (s : Shared), Inv X pins σ H s → wpAny (model X.prog X.w) X.A (eval iter X.env) (fun v s1 => wpAny (model X.prog X.w) X.A (pyIter v) (PIE X pins σ tg R) X.xe s1) X.xe s
def wO (e : Option Expr) : TO := fun σ H Q => ∀ (pins : List (Addr × Obj)) (s : Shared), Inv X pins σ H s → wpAny (model X.prog X.w) X.A (evalPart e X.env) (fun u s' => ∃ o H', Inv X pins σ H' s' ∧ IsPart u o ∧ Q o H') X.xe s
end weak
section weak
variable {X : Cx} {e tg iter : Expr} {es : List Expr} {st : Stmt} {sts : List Stmt}
theorem pe_w : PE X e (wE X e) := ⟨fun pins s σ H Q I h => h pins s I⟩
theorem pt_w : PT X e (wT X e) := ⟨fun pins s σ H Q I h => h pins s I⟩
theorem pw_w : PW X e (wW X e) := ⟨fun whole pins s σ H Q I h => h whole pins s I⟩
theorem pa_w : PA X es (wA X es) := ⟨fun pos pins s σ H Q I h => h pos pins s I⟩
theorem ps_w : PS X st (wS X st) := ⟨fun pins s σ H Z I h => h pins s I⟩
theorem pss_w : PSs X sts (wSs X sts) := ⟨fun pins s σ H Z I h => h pins s I⟩
theorem pg_w : PG X e (wG X e) := ⟨fun pins s σ H v u Q I r h => h pins s u I r⟩
theorem pgs_w : PGs X es (wGs X es) := ⟨fun pins s σ H v u Q I r h => h pins s u I r⟩
theorem pi_w : PI X tg iter (wI X tg iter) := ⟨fun pins s σ H R I h => h pins s I⟩
theorem po_w {o : Option Expr} : PO X o (wO X o) := ⟨fun pins s σ H Q I h => h pins s I⟩
variable {σ : St} {H : Hp}
theorem PE_w {t : TE} {Q : VK} (p : PE X e t) (h : t σ H Q) : wE X e σ H Q := fun pins s I => p.run pins s σ H Q I h
theorem PT_w {t : TT} {Q : Bool → Hp → Prop} (p : PT X e t) (h : t σ H Q) : wT X e σ H Q := fun pins s I => p.run pins s σ H Q I h
theorem PW_w {t : TT} {Q : Bool → Hp → Prop} (p : PW X e t) (h : t σ H Q) : wW X e σ H Q := fun whole pins s I => p.run whole pins s σ H Q I h
theorem PA_w {t : TA} {Q : List V → Hp → Prop} (p : PA X es t) (h : t σ H Q) : wA X es σ H Q := fun pos pins s I => p.run pos pins s σ H Q I h
theorem PS_w {t : TS} {Z : Ends} (p : PS X st t) (h : t Z σ H) : wS X st Z σ H := fun pins s I => p.run pins s σ H Z I h
theorem PSs_w {t : TS} {Z : Ends} (p : PSs X sts t) (h : t Z σ H) : wSs X sts Z σ H := fun pins s I => p.run pins s σ H Z I h
theorem PG_w {t : TG} {v : V} {Q : St → Hp → Prop} (p : PG X e t) (h : t v σ H Q) : wG X e v σ H Q := fun pins s u I r => p.run pins s σ H v u Q I r h
theorem PGs_w {t : TGs} {v : List V} {Q : St → Hp → Prop} (p : PGs X es t) (h : t v σ H Q) : wGs X es v σ H Q := fun pins s u I r => p.run pins s σ H v u Q I r h
theorem PI_w {t : TI} {R : It → Hp → Prop} (p : PI X tg iter t) (h : t σ H R) : wI X tg iter σ H R := fun pins s I => p.run pins s σ H R I h
theorem PO_w {o : Option Expr} {t : TO} {Q : Option Int → Hp → Prop} (p : PO X o t) (h : t σ H Q) : wO X o σ H Q := fun pins s I => p.run pins s σ H Q I h
end weak

/-! ### posts -/
section post
variable {K : PySem.W.Frag} {W W1 : Wd} {H H1 : Hp} {α β γ δ : Type} {R : PySem.W.Frag → Wd → Hp → α → γ → Prop} {R' : PySem.W.Frag → Wd → Hp → β → δ → Prop}
theorem Post.later {r : Rs α} {Q : γ → Hp → Prop} {E : XK} (h : Post K R W H r Q E) (e : Ext K W H W1 H1) : Post K R W1 H1 r Q E := by
  cases r with
  | ok a S => exact fun W' H' b x => h W' H' b (e.trans x)
  | ex C S => exact fun W' H' d x => h W' H' d (e.trans x)
  | no => exact h
theorem Post.bind {r : Rs α} {k : α → So → Rs β} {Q : δ → Hp → Prop} {Q1 : γ → Hp → Prop} {E : XK} (h : Post K R' W H (r.bind k) Q E)
    (c : ∀ a S1 W1 H1 x, Ext K W H W1 H1 → SRel K W1 H1 S1 → R K W1 H1 a x → Post K R' W1 H1 (k a S1) Q E → Q1 x H1) : Post K R W H r Q1 E := by
  cases r with
  | ok a S => exact fun W' H' b x s q => c a S W' H' b x s q (Post.later h x)
  | ex C S => exact h
  | no => exact h
theorem PostS.later {r : Fl} {Z : Ends} {Wx : WX} (h : PostS K W H r Z Wx) (e : Ext K W H W1 H1) : PostS K W1 H1 r Z Wx := by
  cases r with
  | nx a S => exact fun W' H' b x => h W' H' b (e.trans x)
  | rt a S => exact fun W' H' b x => h W' H' b (e.trans x)
  | bk a S => exact fun W' H' b x => h W' H' b (e.trans x)
  | ct a S => exact fun W' H' b x => h W' H' b (e.trans x)
  | ex C a S => exact fun W' H' b d x => h W' H' b d (e.trans x)
  | no => exact h
theorem Post.here {a : α} {S : So} {Q : γ → Hp → Prop} {E : XK} {b : γ} (h : Post K R W H (.ok a S) Q E) (s : SRel K W H S) (r : R K W H a b) : Q b H := h W H b Ext.refl s r
end post
def EqB : PySem.W.Frag → Wd → Hp → Bool → Bool → Prop := fun _ _ _ a b => b = a
/-! ### the judgements -/
def Wish (Wx : WX) (σ : St) : XK := fun c d H => Wx c d σ H
structure PFE (X : Cx) (Wx : WX) (e : Expr) (f : FE) : Prop where
  run : ∀ (W : Wd) (H : Hp) (σ : St) (en : En) (S : So) (Q : VK), ERel X.K W H en σ → SRel X.K W H S → Post X.K DRel W H (f en S) Q (Wish Wx σ) → wE X e σ H Q
structure PFT (X : Cx) (Wx : WX) (e : Expr) (f : FT) : Prop where
  run : ∀ (W : Wd) (H : Hp) (σ : St) (en : En) (S : So) (Q : Bool → Hp → Prop), ERel X.K W H en σ → SRel X.K W H S → Post X.K EqB W H (f en S) Q (Wish Wx σ) → wT X e σ H Q
structure PFW (X : Cx) (Wx : WX) (e : Expr) (f : FT) : Prop where
  run : ∀ (W : Wd) (H : Hp) (σ : St) (en : En) (S : So) (Q : Bool → Hp → Prop), ERel X.K W H en σ → SRel X.K W H S → Post X.K EqB W H (f en S) Q (Wish Wx σ) → wW X e σ H Q
structure PFA (X : Cx) (Wx : WX) (es : List Expr) (f : FA) : Prop where
  run : ∀ (W : Wd) (H : Hp) (σ : St) (en : En) (S : So) (Q : List V → Hp → Prop), ERel X.K W H en σ → SRel X.K W H S → Post X.K DRels W H (f en S) Q (Wish Wx σ) → wA X es σ H Q
structure PFS (X : Cx) (Wx : WX) (st : Stmt) (f : FS) : Prop where
  run : ∀ (W : Wd) (H : Hp) (σ : St) (en : En) (S : So) (Z : Ends), ERel X.K W H en σ → SRel X.K W H S → PostS X.K W H (f en S) Z Wx → wS X st Z σ H
structure PFB (X : Cx) (Wx : WX) (st : List Stmt) (f : FS) : Prop where
  run : ∀ (W : Wd) (H : Hp) (σ : St) (en : En) (S : So) (Z : Ends), ERel X.K W H en σ → SRel X.K W H S → PostS X.K W H (f en S) Z Wx → wSs X st Z σ H
/-- targets -/
abbrev FG := D → En → So → Option (En × So)
abbrev FGs := List D → En → So → Option (En × So)
def PostG (K : PySem.W.Frag) (W : Wd) (H : Hp) (r : Option (En × So)) (Q : St → Hp → Prop) : Prop := match r with
  | some (e, S) => ∀ W' H' σ, Ext K W H W' H' → SRel K W' H' S → ERel K W' H' e σ → Q σ H'
  | none => False
structure PFG (X : Cx) (e : Expr) (g : FG) : Prop where
  run : ∀ (W : Wd) (H : Hp) (σ : St) (en : En) (S : So) (d : D) (v : V) (Q : St → Hp → Prop), ERel X.K W H en σ → SRel X.K W H S → DRel X.K W H d v → PostG X.K W H (g d en S) Q → wG X e v σ H Q
structure PFGs (X : Cx) (e : List Expr) (g : FGs) : Prop where
  run : ∀ (W : Wd) (H : Hp) (σ : St) (en : En) (S : So) (d : List D) (v : List V) (Q : St → Hp → Prop), ERel X.K W H en σ → SRel X.K W H S → DRels X.K W H d v → PostG X.K W H (g d en S) Q → wGs X e v σ H Q
/-- what is walked: fixed items, or a list of the store as it stands at each turn -/
inductive ItD where
  | items (ds : List D) | live (n : Nat)
def ItD.at (S : So) (i : Nat) : ItD → Option (Option D)
  | .items ds => some ds[i]?
  | .live n => match S[n]? with
    | some (.lst ds) => some ds[i]?
    | _ => none
def ItR (K : PySem.W.Frag) (W : Wd) (H : Hp) (t : ItD) (J : It) : Prop := ∀ W' H' S, Ext K W H W' H' → SRel K W' H' S → ∀ (i : Nat), match t.at S i with
  | some (some d) => J.go i H' ∧ ∀ x H'', J.yld i H' x H'' → Ext K W' H' W' H'' ∧ SRel K W' H'' S ∧ DRel K W' H'' d x
  | some none => J.stop i H'
  | none => True
theorem ItR.ext {K : PySem.W.Frag} {W W' : Wd} {H H' : Hp} {t : ItD} {J : It} (h : ItR K W H t J) (e : Ext K W H W' H') : ItR K W' H' t J := fun W1 H1 S x => h W1 H1 S (e.trans x)
abbrev FI := En → So → Rs ItD
structure PFI (X : Cx) (Wx : WX) (tg iter : Expr) (f : FI) : Prop where
  run : ∀ (W : Wd) (H : Hp) (σ : St) (en : En) (S : So) (Q : It → Hp → Prop), ERel X.K W H en σ → SRel X.K W H S → Post X.K ItR W H (f en S) Q (Wish Wx σ) → wI X tg iter σ H Q

/-! ### names, constants, operators -/
def fVar (i : Nat) : FE := fun en S => match en[i]? with
  | some (some d) => .ok d S
  | _ => .no
def fC (d : D) : FE := fun _ S => .ok d S
/-- from an operation on data -/
def ofO : Option (D × So) → Rs D
  | some (d, S) => .ok d S
  | none => .no
abbrev G2 := D → D → So → Option (D × So)
def fOp (g : G2) (fa fb : FE) : FE := fun en S => (fa en S).bind fun a S1 => (fb en S1).bind fun b S2 => ofO (g a b S2)
def PostO (K : PySem.W.Frag) (W : Wd) (H : Hp) (r : Option (D × So)) (Q : VK) : Prop := match r with
  | some (d, S) => ∀ W' H' v, Ext K W H W' H' → SRel K W' H' S → DRel K W' H' d v → Q v H'
  | none => False
theorem postO {K : PySem.W.Frag} {W : Wd} {H : Hp} {r : Option (D × So)} {Q : VK} {E : XK} (h : Post K DRel W H (ofO r) Q E) : PostO K W H r Q := by
  cases r with
  | none => exact h
  | some p => obtain ⟨d, S⟩ := p; exact h
/-- an operation by values is told by one on data -/
def OpD (K : PySem.W.Frag) (r : R2) (g : G2) : Prop := ∀ (W : Wd) (H : Hp) (S : So) (x y : V) (a b : D) (Q : VK), SRel K W H S → DRel K W H a x → DRel K W H b y → PostO K W H (g a b S) Q → r x y H Q
theorem OpD.or {K : PySem.W.Frag} {r r' : R2} {g g' : G2} (h : OpD K r g) (h' : OpD K r' g') : OpD K (fun x y H Q => r x y H Q ∨ r' x y H Q) (fun a b S => (g a b S).orElse fun _ => g' a b S) := by
  intro W H S x y a b Q s ra rb p
  cases e : g a b S with
  | none => dsimp only at p; rw [e] at p; exact .inr (h' W H S x y a b Q s ra rb p)
  | some q => dsimp only at p; rw [e] at p; exact .inl (h W H S x y a b Q s ra rb (by rw [e]; exact p))
section rules
variable {X : Cx} {Wx : WX} {a b c e : Expr} {es : List Expr} {fa fb fc : FE} {pos : Pos}
theorem pf_var (i : Nat) {x : Str} {pos : Pos} (hN : X.N[i]? = some x := by rfl) (hv : Vis X.env.scope x := by first | exact Or.inl rfl | exact Or.inr (Or.inl rfl) | exact Or.inr (Or.inr rfl)) (hd : (x == ("__debug__" : Str)) = false := by decide)
    (hcd : (x == ("__classdict__" : Str)) = false := by decide) : PFE X Wx (.Name x pos) (fVar i) := by
  refine ⟨fun W H σ en S Q he hs hp => PE_w (pe_var hN hv hd hcd) ?_⟩
  unfold fVar at hp
  split at hp
  · rename_i d hd'
    obtain ⟨v, h1, h2⟩ := he.2 i d hd'
    exact ⟨v, h1, hp.here hs h2⟩
  · exact hp.elim
theorem pf_const {v : V} {d : D} (p : PE X e (tC v)) (h : ∀ W H, DRel X.K W H d v) : PFE X Wx e (fC d) := ⟨fun W H σ en S Q he hs hp => PE_w p (Post.here hp hs (h W H))⟩
theorem pf_int {i j pos} : PFE X Wx (.Constant (.int i) j pos) (fC (.int i)) := pf_const pe_int fun _ _ => by unfold DRel; rfl
theorem pf_bl {i j pos} : PFE X Wx (.Constant (.bool i) j pos) (fC (.bl i)) := pf_const pe_bl fun _ _ => by unfold DRel; rfl
theorem pf_non {j pos} : PFE X Wx (.Constant .none j pos) (fC .non) := pf_const pe_non fun _ _ => by unfold DRel; rfl
theorem pf_str {i j pos} : PFE X Wx (.Constant (.str i) j pos) (fC (.str i)) := pf_const pe_str fun _ _ => by unfold DRel; rfl
/-- a module's constant -/
theorem pf_glob {x : Str} {i : Int} {u : Value} {pos : Pos} (hg : Gl X x) (hm : X.mg x = some u) (r : RelV (.int i) u) (hd : (x == ("__debug__" : Str)) = false := by decide) : PFE X Wx (.Name x pos) (fC (.int i)) :=
  pf_const (pe_glob hg hm r hd) fun _ _ => by unfold DRel; rfl
theorem pf_globS {x : Str} {i : Str} {u : Value} {pos : Pos} (hg : Gl X x) (hm : X.mg x = some u) (r : RelV (.str i) u) (hd : (x == ("__debug__" : Str)) = false := by decide) : PFE X Wx (.Name x pos) (fC (.str i)) :=
  pf_const (pe_glob hg hm r hd) fun _ _ => by unfold DRel; rfl
/-- two expressions, then a thing by values -/
theorem bind2 {W : Wd} {H : Hp} {σ : St} {en : En} {S : So} {Q : VK} {g : G2} {r : V → V → Hp → Prop} (ha : PFE X Wx a fa) (hb : PFE X Wx b fb) (he : ERel X.K W H en σ) (hs : SRel X.K W H S) (hp : Post X.K DRel W H (fOp g fa fb en S) Q (Wish Wx σ))
    (h : ∀ W2 H2 S2 x y d1 d2, Ext X.K W H W2 H2 → SRel X.K W2 H2 S2 → DRel X.K W2 H2 d1 x → DRel X.K W2 H2 d2 y → PostO X.K W2 H2 (g d1 d2 S2) Q → r x y H2) : wE X a σ H fun x H1 => wE X b σ H1 fun y H2 => r x y H2 := by
  refine ha.run W H σ en S _ he hs (Post.bind hp fun d1 S1 W1 H1 x e1 s1 r1 p1 => ?_)
  refine hb.run W1 H1 σ en S1 _ (he.ext e1) s1 (Post.bind p1 fun d2 S2 W2 H2 y e2 s2 r2 p2 => ?_)
  exact h W2 H2 S2 x y d1 d2 (e1.trans e2) s2 (r1.ext e2) r2 (postO p2)
theorem pf_op {op : Operator} {r : R2} {g : G2} (ho : OpR X (binaryOp op) r) (hg : OpD X.K r g) (ha : PFE X Wx a fa) (hb : PFE X Wx b fb) : PFE X Wx (.BinOp a op b pos) (fOp g fa fb) :=
  ⟨fun W H σ en S Q he hs hp => PE_w (pe_op ho pe_w pe_w) (bind2 ha hb he hs hp fun W2 H2 S2 x y d1 d2 _ s2 r1 r2 p => hg W2 H2 S2 x y d1 d2 Q s2 r1 r2 p)⟩
theorem pf_cmp {op : CmpOp} {r : R2} {g : G2} (ho : OpR X (compareOp op) r) (hg : OpD X.K r g) (ha : PFE X Wx a fa) (hb : PFE X Wx b fb) (hm : behindInMarks op b = false) : PFE X Wx (.Compare a [op] [b] pos) (fOp g fa fb) :=
  ⟨fun W H σ en S Q he hs hp => PE_w (pe_cmpR ho pe_w pe_w hm) (bind2 ha hb he hs hp fun W2 H2 S2 x y d1 d2 _ s2 r1 r2 p => hg W2 H2 S2 x y d1 d2 Q s2 r1 r2 p)⟩
/-- a comparison as a test -/
def isB : D → So → Rs Bool
  | .bl b, S => .ok b S
  | _, _ => .no
def fTst (f : FE) : FT := fun en S => (f en S).bind isB
theorem pft_cmp {op : CmpOp} {r : R2} {g : G2} (ho : OpR X (compareOp op) r) (hg : OpD X.K r g) (ha : PFE X Wx a fa) (hb : PFE X Wx b fb) (hm : behindInMarks op b = false) : PFT X Wx (.Compare a [op] [b] pos) (fTst (fOp g fa fb)) := by
  refine ⟨fun W H σ en S Q he hs hp => PT_w (pt_cmpR ho pe_w pe_w hm) ?_⟩
  have hp' := Post.bind (R := DRel) (Q1 := fun x H' => ∃ k, x = .bl k ∧ Q k H') hp fun d S1 W1 H1 x e1 s1 r1 p1 => by
    cases d with
    | bl b => unfold DRel at r1; exact ⟨b, r1, p1.here s1 rfl⟩
    | _ => exact p1.elim
  exact bind2 ha hb he hs hp' fun W2 H2 S2 x y d1 d2 _ s2 r1 r2 p => hg W2 H2 S2 x y d1 d2 _ s2 r1 r2 p
end rules
end PF

namespace PF
open PySem L2
variable [Tab]
section tests
variable {X : Cx} {Wx : WX} {a b c e : Expr} {es rest : List Expr} {fa fb fc : FE} {ga gb : FT} {pos : Pos}
/-- truth of data -/
def truD (S : So) : D → Option Bool
  | .non => some false
  | .bl b => some b
  | .int i => some (i != 0)
  | .str y => if y.length ≤ sizeLine then some ((y.length : Int) != 0) else none
  | .tup ds => some (!ds.isEmpty)
  | .scr _ => none
  | .lst ds => some (!ds.isEmpty)
  | .ref n => match S[n]? with
    | some (.lst ds) => some (!ds.isEmpty)
    | some (.dic kvs) => some (!kvs.isEmpty)
    | _ => none
def isT (d : D) (S : So) : Rs Bool := match truD S d with
  | some b => .ok b S
  | none => .no
theorem isEmpty_rel {K : PySem.W.Frag} {W : Wd} {H : Hp} {ds : List D} {vs : List V} (h : DRels K W H ds vs) : ds.isEmpty = vs.isEmpty := by
  cases ds with
  | nil => unfold DRels at h; subst h; rfl
  | cons d ds => unfold DRels at h; obtain ⟨v, r, rfl, _⟩ := h; rfl
theorem kempty_rel {K : PySem.W.Frag} {W : Wd} {H : Hp} {ds : List (Key × D)} {vs : List (Key × V)} (h : KRel K W H ds vs) : ds.isEmpty = vs.isEmpty := by
  cases ds with
  | nil => unfold KRel at h; subst h; rfl
  | cons d ds => obtain ⟨k, d⟩ := d; unfold KRel at h; obtain ⟨v, r, rfl, _⟩ := h; rfl
theorem tru_rel {K : PySem.W.Frag} {W : Wd} {H : Hp} {S : So} {d : D} {v : V} {k : Bool} (s : SRel K W H S) (r : DRel K W H d v) (h : truD S d = some k) : TruV K v H k := by
  cases d with
  | non => unfold DRel at r; subst r; simp only [truD] at h; exact (Option.some.inj h).symm
  | bl b => unfold DRel at r; subst r; simp only [truD] at h; exact (Option.some.inj h).symm
  | int b => unfold DRel at r; subst r; simp only [truD] at h; exact (Option.some.inj h).symm
  | str b =>
    unfold DRel at r; subst r; simp only [truD] at h
    split at h
    · exact ⟨by assumption, (Option.some.inj h).symm⟩
    · cases h
  | tup ds =>
    unfold DRel at r; obtain ⟨a, vs, rfl, h1, h2⟩ := r
    simp only [truD] at h
    exact .inr (.inl ⟨vs, h1, by rw [← isEmpty_rel h2]; exact (Option.some.inj h).symm⟩)
  | lst ds =>
    unfold DRel at r; obtain ⟨a, vs, rfl, h1, h2⟩ := r
    simp only [truD] at h
    exact .inl ⟨vs, h1.sq, by rw [← isEmpty_rel h2]; exact (Option.some.inj h).symm⟩
  | ref n =>
    unfold DRel at r; obtain ⟨a, rfl, h1⟩ := r
    simp only [truD] at h
    split at h
    · rename_i ds hn
      obtain ⟨vs, h2, h3⟩ := s.obj n a _ h1 hn
      exact .inl ⟨vs, .of h2, by rw [← isEmpty_rel h3]; exact (Option.some.inj h).symm⟩
    · rename_i ds hn
      obtain ⟨vs, h2, h3⟩ := s.obj n a _ h1 hn
      exact .inr (.inr ⟨vs, h2, by rw [← kempty_rel h3]; exact (Option.some.inj h).symm⟩)
    · cases h
  | scr ns => simp only [truD] at h; cases h
def fTru (f : FE) : FT := fun en S => (f en S).bind isT
/-- any expression as a test, by its truth -/
theorem pft_tru (ha : PFE X Wx a fa) (he : ∀ whole, isTrue a X.env whole = (do let v ← whole; standAt a.pos; holding [v] (truthy v)) := by intro _; rfl) : PFT X Wx a (fTru fa) := by
  refine ⟨fun W H σ en S Q he' hs hp => PT_w (pt_truth pe_w he) (ha.run W H σ en S _ he' hs (Post.bind hp fun d S1 W1 H1 x e1 s1 r1 p1 => ?_))⟩
  unfold isT at p1
  split at p1
  · rename_i k hk
    exact ⟨k, tru_rel s1 r1 hk, p1.here s1 rfl⟩
  · exact p1.elim
def fNotT (g : FT) : FT := fun en S => (g en S).bind fun k S1 => .ok (!k) S1
theorem pft_not (ha : PFT X Wx a ga) : PFT X Wx (.UnaryOp .Not a pos) (fNotT ga) := by
  refine ⟨fun W H σ en S Q he hs hp => PT_w (pt_not pt_w) (ha.run W H σ en S _ he hs (Post.bind hp fun d S1 W1 H1 x e1 s1 r1 p1 => ?_))⟩
  cases r1
  exact p1.here s1 rfl
def fAndT (g h : FT) : FT := fun en S => (g en S).bind fun k S1 => if k = true then h en S1 else .ok false S1
def fOrT (g h : FT) : FT := fun en S => (g en S).bind fun k S1 => if k = true then .ok true S1 else h en S1
theorem pfw_and1 (ha : PFT X Wx a ga) : PFW X Wx (.BoolOp .And [a] pos) ga := ⟨fun W H σ en S Q he hs hp => PW_w (pw_and1 pt_w) (ha.run W H σ en S Q he hs hp)⟩
theorem pfw_or1 (ha : PFT X Wx a ga) : PFW X Wx (.BoolOp .Or [a] pos) ga := ⟨fun W H σ en S Q he hs hp => PW_w (pw_or1 pt_w) (ha.run W H σ en S Q he hs hp)⟩
theorem pfw_and (ha : PFT X Wx a ga) (hb : PFW X Wx (.BoolOp .And (b :: rest) pos) gb) : PFW X Wx (.BoolOp .And (a :: b :: rest) pos) (fAndT ga gb) := by
  refine ⟨fun W H σ en S Q he hs hp => PW_w (pw_and pt_w pw_w) (ha.run W H σ en S _ he hs (Post.bind hp fun k S1 W1 H1 x e1 s1 r1 p1 => ?_))⟩
  cases r1
  cases k with
  | true => exact iteT (hb.run W1 H1 σ en S1 Q (he.ext e1) s1 p1)
  | false => exact iteF (p1.here s1 rfl)
theorem pfw_or (ha : PFT X Wx a ga) (hb : PFW X Wx (.BoolOp .Or (b :: rest) pos) gb) : PFW X Wx (.BoolOp .Or (a :: b :: rest) pos) (fOrT ga gb) := by
  refine ⟨fun W H σ en S Q he hs hp => PW_w (pw_or pt_w pw_w) (ha.run W H σ en S _ he hs (Post.bind hp fun k S1 W1 H1 x e1 s1 r1 p1 => ?_))⟩
  cases r1
  cases k with
  | true => exact iteT (p1.here s1 rfl)
  | false => exact iteF (hb.run W1 H1 σ en S1 Q (he.ext e1) s1 p1)
theorem pft_w (h : PFW X Wx a ga) : PFT X Wx a ga := ⟨fun W H σ en S Q he hs hp => PT_w pw_w.pt (h.run W H σ en S Q he hs hp)⟩
/-- as values, bools -/
def fAndV (f g : FE) : FE := fun en S => (f en S).bind fun d S1 => match d with
  | .bl k => if k = true then g en S1 else .ok (.bl false) S1
  | _ => .no
def fOrV (f g : FE) : FE := fun en S => (f en S).bind fun d S1 => match d with
  | .bl k => if k = true then .ok (.bl true) S1 else g en S1
  | _ => .no
def fNotV (f : FE) : FE := fun en S => (f en S).bind fun d S1 => match d with
  | .bl k => .ok (.bl (!k)) S1
  | _ => .no
theorem pf_one {op} (h : PFE X Wx a fa) : PFE X Wx (.BoolOp op [a] pos) fa := ⟨fun W H σ en S Q he hs hp => PE_w (pe_one pe_w) (h.run W H σ en S Q he hs hp)⟩
theorem pf_and (ha : PFE X Wx a fa) (hb : PFE X Wx (.BoolOp .And (b :: rest) pos) fb) : PFE X Wx (.BoolOp .And (a :: b :: rest) pos) (fAndV fa fb) := by
  refine ⟨fun W H σ en S Q he hs hp => PE_w (pe_and pe_w pe_w) (ha.run W H σ en S _ he hs (Post.bind hp fun d S1 W1 H1 x e1 s1 r1 p1 => ?_))⟩
  cases d with
  | bl k =>
    unfold DRel at r1; subst r1
    refine ⟨k, rfl, ?_⟩
    cases k with
    | true => exact iteT (hb.run W1 H1 σ en S1 Q (he.ext e1) s1 p1)
    | false => exact iteF (p1.here s1 (by unfold DRel; rfl))
  | _ => exact p1.elim
theorem pf_or (ha : PFE X Wx a fa) (hb : PFE X Wx (.BoolOp .Or (b :: rest) pos) fb) : PFE X Wx (.BoolOp .Or (a :: b :: rest) pos) (fOrV fa fb) := by
  refine ⟨fun W H σ en S Q he hs hp => PE_w (pe_or pe_w pe_w) (ha.run W H σ en S _ he hs (Post.bind hp fun d S1 W1 H1 x e1 s1 r1 p1 => ?_))⟩
  cases d with
  | bl k =>
    unfold DRel at r1; subst r1
    refine ⟨k, rfl, ?_⟩
    cases k with
    | true => exact iteT (p1.here s1 (by unfold DRel; rfl))
    | false => exact iteF (hb.run W1 H1 σ en S1 Q (he.ext e1) s1 p1)
  | _ => exact p1.elim
theorem pf_not (ha : PFE X Wx a fa) : PFE X Wx (.UnaryOp .Not a pos) (fNotV fa) := by
  refine ⟨fun W H σ en S Q he hs hp => PE_w (pe_not pe_w) (ha.run W H σ en S _ he hs (Post.bind hp fun d S1 W1 H1 x e1 s1 r1 p1 => ?_))⟩
  cases d with
  | bl k => unfold DRel at r1; subst r1; exact ⟨k, rfl, p1.here s1 (by unfold DRel; rfl)⟩
  | _ => exact p1.elim
def fIf (g : FT) (f h : FE) : FE := fun en S => (g en S).bind fun k S1 => if k = true then f en S1 else h en S1
theorem pf_ifExp (hc : PFT X Wx c ga) (ha : PFE X Wx a fa) (hb : PFE X Wx b fb) : PFE X Wx (.IfExp c a b pos) (fIf ga fa fb) := by
  refine ⟨fun W H σ en S Q he hs hp => PE_w (pe_ifExp pt_w pe_w pe_w) (hc.run W H σ en S _ he hs (Post.bind hp fun k S1 W1 H1 x e1 s1 r1 p1 => ?_))⟩
  cases r1
  cases k with
  | true => exact iteT (ha.run W1 H1 σ en S1 Q (he.ext e1) s1 p1)
  | false => exact iteF (hb.run W1 H1 σ en S1 Q (he.ext e1) s1 p1)
/-- a op b op' c -/
def fChain (g g' : G2) (fa fb fc : FE) : FE := fun en S => (fa en S).bind fun x S1 => (fb en S1).bind fun y S2 => (ofO (g x y S2)).bind fun z S3 => match z with
  | .bl k => if k = true then (fc en S3).bind fun w S4 => ofO (g' y w S4) else .ok (.bl false) S3
  | _ => .no
theorem chain_run {r r' : R2} {g g' : G2} (hg : OpD X.K r g) (hg' : OpD X.K r' g') (ha : PFE X Wx a fa) (hb : PFE X Wx b fb) (hc : PFE X Wx c fc) {W : Wd} {H : Hp} {σ : St} {en : En} {S : So} {Q : VK} (he : ERel X.K W H en σ) (hs : SRel X.K W H S)
    (hp : Post X.K DRel W H (fChain g g' fa fb fc en S) Q (Wish Wx σ)) : tChain r r' (wE X a) (wE X b) (wE X c) σ H Q := by
  refine ha.run W H σ en S _ he hs (Post.bind hp fun d1 S1 W1 H1 x e1 s1 r1 p1 => ?_)
  refine hb.run W1 H1 σ en S1 _ (he.ext e1) s1 (Post.bind p1 fun d2 S2 W2 H2 y e2 s2 r2 p2 => ?_)
  refine hg W2 H2 S2 x y d1 d2 _ s2 (r1.ext e2) r2 (postO (Post.bind p2 fun d3 S3 W3 H3 z e3 s3 r3 p3 => ?_))
  cases d3 with
  | bl k =>
    unfold DRel at r3; subst r3
    refine ⟨k, rfl, ?_⟩
    cases k with
    | true =>
      refine iteT (hc.run W3 H3 σ en S3 _ (he.ext ((e1.trans e2).trans e3)) s3 (Post.bind p3 fun d4 S4 W4 H4 w e4 s4 r4 p4 => ?_))
      exact hg' W4 H4 S4 y w d2 d4 Q s4 (r2.ext (e3.trans e4)) r4 (postO p4)
    | false => exact iteF (p3.here s3 (by unfold DRel; rfl))
  | _ => exact p3.elim
theorem pf_chain {op op' : CmpOp} {r r' : R2} {g g' : G2} (ho : OpR X (compareOp op) r) (hg : OpD X.K r g) (ho' : OpR X (compareOp op') r') (hg' : OpD X.K r' g') (ha : PFE X Wx a fa) (hb : PFE X Wx b fb) (hc : PFE X Wx c fc)
    (hm : lastMarks [op, op'] [b, c] = false := by with_unfolding_all rfl) : PFE X Wx (.Compare a [op, op'] [b, c] pos) (fChain g g' fa fb fc) :=
  ⟨fun W H σ en S Q he hs hp => PE_w (pe_chain ho ho' pe_w pe_w pe_w hm) (chain_run hg hg' ha hb hc he hs hp)⟩
theorem pft_chain {op op' : CmpOp} {r r' : R2} {g g' : G2} (ho : OpR X (compareOp op) r) (hg : OpD X.K r g) (ho' : OpR X (compareOp op') r') (hg' : OpD X.K r' g') (ha : PFE X Wx a fa) (hb : PFE X Wx b fb) (hc : PFE X Wx c fc)
    (hm : lastMarks [op, op'] [b, c] = false := by with_unfolding_all rfl) : PFT X Wx (.Compare a [op, op'] [b, c] pos) (fTst (fChain g g' fa fb fc)) := by
  refine ⟨fun W H σ en S Q he hs hp => PT_w (pt_chain ho ho' pe_w pe_w pe_w hm) ?_⟩
  have hp' := Post.bind (R := DRel) (Q1 := fun x H' => ∃ k, x = .bl k ∧ Q k H') hp fun d S1 W1 H1 x e1 s1 r1 p1 => by
    cases d with
    | bl b => unfold DRel at r1; exact ⟨b, r1, p1.here s1 rfl⟩
    | _ => exact p1.elim
  exact chain_run hg hg' ha hb hc he hs hp'
/-! arguments -/
def fNil : FA := fun _ S => .ok [] S
def fCons (f : FE) (g : FA) : FA := fun en S => (f en S).bind fun d S1 => (g en S1).bind fun ds S2 => .ok (d :: ds) S2
theorem pfa_nil : PFA X Wx [] fNil := ⟨fun W H σ en S Q he hs hp => PA_w pa_nil (Post.here hp hs DRels.nil)⟩
theorem pfa_cons {f : FE} {g : FA} (ha : PFE X Wx e f) (hr : PFA X Wx es g) (hs : starEach (e :: es) X.env = (false, eval e X.env) :: starEach es X.env := by rfl) : PFA X Wx (e :: es) (fCons f g) := by
  refine ⟨fun W H σ en S Q he hs' hp => PA_w (pa_cons pe_w pa_w hs) (ha.run W H σ en S _ he hs' (Post.bind hp fun d S1 W1 H1 x e1 s1 r1 p1 => ?_))⟩
  refine hr.run W1 H1 σ en S1 _ (he.ext e1) s1 (Post.bind p1 fun ds S2 W2 H2 xs e2 s2 r2 p2 => ?_)
  exact p2.here s2 (DRels.cons (r1.ext e2) r2)
/-- a new list: frozen, or of the store -/
def newL (mu : Bool) (ds : List D) (S : So) : D × So := if mu = true then (.ref S.length, S ++ [.lst ds]) else (.lst ds, S)
theorem new_list {K : PySem.W.Frag} {W : Wd} {H : Hp} {S : So} {ds : List D} {vs : List V} {Q : VK} {p : Addr} (mu : Bool) (s : SRel K W H S) (r : DRels K W H ds vs) (h : PostO K W H (some (newL mu ds S)) Q) (hp : H p = none) : Q (.ref p) (upd H p (.lst vs)) := by
  cases mu with
  | true => exact h (W.add p) _ (.ref p) (ext_add s hp) (s.new hp trivial ⟨vs, upd_same, r.ext (ext_add s hp)⟩) (drel_add s)
  | false => exact h (W.frz p) _ (.ref p) (ext_frz s hp) (s.frz hp) (drel_frz s hp r)
theorem new_tup {K : PySem.W.Frag} {W : Wd} {H : Hp} {S : So} {ds : List D} {vs : List V} {Q : VK} {p : Addr} (s : SRel K W H S) (r : DRels K W H ds vs) (h : PostO K W H (some (.tup ds, S)) Q) (hp : H p = none) : Q (.ref p) (upd H p (.tup vs)) :=
  h W _ (.ref p) (ext_more s hp) (s.more hp) (drel_tup s hp r)
def fTup (g : FA) : FE := fun en S => (g en S).bind fun ds S1 => if ds.length ≤ sizeLine then .ok (.tup ds) S1 else .no
theorem pf_tup {x1} {g : FA} (h : PFA X Wx es g) : PFE X Wx (.Tuple es x1 pos) (fTup g) := by
  refine ⟨fun W H σ en S Q he hs hp => PE_w (pe_tup pa_w) (h.run W H σ en S _ he hs (Post.bind hp fun ds S1 W1 H1 vs e1 s1 r1 p1 => ?_))⟩
  split at p1
  · exact ⟨by rw [← r1.length]; assumption, fun p hp' => new_tup s1 r1 p1 hp'⟩
  · exact p1.elim
def fLst (mu : Bool) (g : FA) : FE := fun en S => (g en S).bind fun ds S1 => if ds.length ≤ sizeLine then ofO (some (newL mu ds S1)) else .no
theorem pf_lst (mu : Bool) {g : FA} (h : PFA X Wx es g) : PFE X Wx (.List es pos) (fLst mu g) := by
  refine ⟨fun W H σ en S Q he hs hp => PE_w (pe_lst pa_w) (h.run W H σ en S _ he hs (Post.bind hp fun ds S1 W1 H1 vs e1 s1 r1 p1 => ?_))⟩
  split at p1
  · exact ⟨by rw [← r1.length]; assumption, fun p hp' => new_list mu s1 r1 (postO p1) hp'⟩
  · exact p1.elim
end tests

/-! ### statements -/
section stmts
variable {X : Cx} {Wx : WX} {e tg : Expr} {st : Stmt} {rest : List Stmt} {f g : FS} {fe : FE} {gt : FT} {pos : Pos}
def fNext : FS := fun en S => .nx en S
def fSeq (f g : FS) : FS := fun en S => match f en S with
  | .nx e S1 => g e S1
  | o => o
theorem pfb_nil : PFB X Wx [] fNext := ⟨fun W H σ en S Z he hs hp => PSs_w pss_nil (hp W H σ Ext.refl hs he)⟩
theorem pfb_one (h : PFS X Wx st f) : PFB X Wx [st] f := ⟨fun W H σ en S Z he hs hp => PSs_w (pss_one ps_w) (h.run W H σ en S Z he hs hp)⟩
theorem pfb_cons (h : PFS X Wx st f) (hr : PFB X Wx rest g) : PFB X Wx (st :: rest) (fSeq f g) := by
  refine ⟨fun W H σ en S Z he hs hp => PSs_w (pss_cons ps_w pss_w) (h.run W H σ en S _ he hs ?_)⟩
  unfold fSeq at hp
  cases q : f en S with
  | nx e1 S1 => rw [q] at hp; exact fun W' H' σ' x s r => hr.run W' H' σ' e1 S1 Z r s (hp.later x)
  | rt d S1 => rw [q] at hp; exact hp
  | bk d S1 => rw [q] at hp; exact hp
  | ct d S1 => rw [q] at hp; exact hp
  | ex C d S1 => rw [q] at hp; exact hp
  | no => rw [q] at hp; exact hp
/-- from an expression's result -/
def fthen {α : Type} (en : En) (r : Rs α) (k : α → So → Fl) : Fl := match r with
  | .ok a S => k a S
  | .ex C S => .ex C en S
  | .no => .no
theorem post_then {K : PySem.W.Frag} {W : Wd} {H : Hp} {σ : St} {en : En} {α γ : Type} {R : PySem.W.Frag → Wd → Hp → α → γ → Prop} {r : Rs α} {k : α → So → Fl} {Z : Ends} {Q1 : γ → Hp → Prop} (he : ERel K W H en σ) (h : PostS K W H (fthen en r k) Z Wx)
    (c : ∀ a S1 W1 H1 x, Ext K W H W1 H1 → SRel K W1 H1 S1 → R K W1 H1 a x → PostS K W1 H1 (k a S1) Z Wx → Q1 x H1) : Post K R W H r Q1 (Wish Wx σ) := by
  cases r with
  | ok a S => exact fun W' H' b x s q => c a S W' H' b x s q (PostS.later h x)
  | ex C S => exact fun W' H' d x s => h W' H' σ d x s (he.ext x)
  | no => exact h
def fExpr (f : FE) : FS := fun en S => fthen en (f en S) fun _ S1 => .nx en S1
theorem pfs_expr (h : PFE X Wx e fe) (hs : swapsWith e none pos.line X.env = pure false := by rfl) : PFS X Wx (.Expr e pos) (fExpr fe) := by
  refine ⟨fun W H σ en S Z he hs' hp => PS_w (ps_expr pe_w hs) (h.run W H σ en S _ he hs' (post_then he hp fun d S1 W1 H1 x e1 s1 r1 p1 => ?_))⟩
  exact p1 W1 H1 σ Ext.refl s1 (he.ext e1)
def fRet (f : FE) : FS := fun en S => fthen en (f en S) fun d S1 => .rt d S1
theorem pfs_ret (h : PFE X Wx e fe) : PFS X Wx (.Return (some e) pos) (fRet fe) :=
  ⟨fun W H σ en S Z he hs' hp => PS_w (ps_ret pe_w) (h.run W H σ en S _ he hs' (post_then he hp fun d S1 W1 H1 x e1 s1 r1 p1 => p1 W1 H1 x Ext.refl s1 r1))⟩
def fRetN : FS := fun en S => .rt .non S
theorem pfs_retN : PFS X Wx (.Return none pos) fRetN := ⟨fun W H σ en S Z he hs' hp => PS_w ps_retN (hp W H .non Ext.refl hs' (by unfold DRel; rfl))⟩
theorem pfs_pass : PFS X Wx (.Pass pos) fNext := ⟨fun W H σ en S Z he hs' hp => PS_w ps_pass (hp W H σ Ext.refl hs' he)⟩
def fBrk : FS := fun en S => .bk en S
def fCnt : FS := fun en S => .ct en S
theorem pfs_break : PFS X Wx (.Break pos) fBrk := ⟨fun W H σ en S Z he hs' hp => PS_w ps_break (hp W H σ Ext.refl hs' he)⟩
theorem pfs_continue : PFS X Wx (.Continue pos) fCnt := ⟨fun W H σ en S Z he hs' hp => PS_w ps_continue (hp W H σ Ext.refl hs' he)⟩
def fIte (c : FT) (f g : FS) : FS := fun en S => fthen en (c en S) fun k S1 => if k = true then f en S1 else g en S1
theorem pfs_if {c : Expr} {a b : List Stmt} (hc : PFT X Wx c gt) (ha : PFB X Wx a f) (hb : PFB X Wx b g) : PFS X Wx (.If c a b pos) (fIte gt f g) := by
  refine ⟨fun W H σ en S Z he hs' hp => PS_w (ps_if pt_w pss_w pss_w) (hc.run W H σ en S _ he hs' (post_then he hp fun k S1 W1 H1 x e1 s1 r1 p1 => ?_))⟩
  cases r1
  cases k with
  | true => exact iteT (ha.run W1 H1 σ en S1 Z (he.ext e1) s1 p1)
  | false => exact iteF (hb.run W1 H1 σ en S1 Z (he.ext e1) s1 p1)
/-- a statement that is never come to -/
def fNever : FS := fun _ _ => .no
theorem pfs_never : PFS X Wx st fNever := ⟨fun W H σ en S Z he hs' hp => hp.elim⟩
/-! targets -/
def gtName (i : Nat) : FG := fun d en S => some (en.set i (some d), S)
theorem pfg_name {i : Nat} {x : Str} (hN : X.N.Nodup) (hi : X.N[i]? = some x) (hx : Loc X.env.scope x) (hf : X.fn x = true ∨ X.env.scope.names.lookup x = some .local := by first | exact .inl rfl | exact .inr rfl | assumption) : PFG X (.Name x pos) (gtName i) :=
  ⟨fun W H σ en S d v Q he hs r hp => PG_w (pg_name hN hi hx hf) (hp W H _ Ext.refl hs (he.set r))⟩
def gtNil : FGs := fun ds en S => match ds with
  | [] => some (en, S)
  | _ => none
def gtCons (g : FG) (h : FGs) : FGs := fun ds en S => match ds with
  | d :: r => match g d en S with
    | some (e1, S1) => h r e1 S1
    | none => none
  | [] => none
theorem pfgs_nil : PFGs X [] gtNil := by
  refine ⟨fun W H σ en S d v Q he hs r hp => PGs_w pgs_nil ?_⟩
  cases d with
  | nil => unfold DRels at r; exact ⟨r, hp W H σ Ext.refl hs he⟩
  | cons d ds => exact hp.elim
theorem PostG.later {K : PySem.W.Frag} {W W1 : Wd} {H H1 : Hp} {r : Option (En × So)} {Q : St → Hp → Prop} (h : PostG K W H r Q) (x : Ext K W H W1 H1) : PostG K W1 H1 r Q := by
  cases r with
  | none => exact h
  | some p => exact fun W' H' σ y => h W' H' σ (x.trans y)
theorem pfgs_cons {es : List Expr} {g : FG} {h : FGs} (h1 : PFG X e g) (h2 : PFGs X es h) (hs : (assignEach (e :: es) X.env).map (·.2) = assign e X.env :: (assignEach es X.env).map (·.2) := by rfl) : PFGs X (e :: es) (gtCons g h) := by
  refine ⟨fun W H σ en S d v Q he hs' r hp => PGs_w (pgs_cons pg_w pgs_w hs) ?_⟩
  cases d with
  | nil => exact hp.elim
  | cons d ds =>
    unfold DRels at r
    obtain ⟨v1, vr, rfl, r1, r2⟩ := r
    refine ⟨v1, vr, rfl, h1.run W H σ en S d v1 _ he hs' r1 ?_⟩
    unfold gtCons at hp
    cases q : g d en S with
    | none => simp only [q] at hp; exact hp.elim
    | some p =>
      obtain ⟨e1, S1⟩ := p
      simp only [q] at hp
      exact fun W' H' σ' x s rr => h2.run W' H' σ' e1 S1 ds vr Q rr s (r2.ext x) (hp.later x)
def gtTup (n : Nat) (g : FGs) : FG := fun d en S => match d with
  | .tup ds => if ds.length = n then g ds en S else none
  | _ => none
theorem pfg_tup {es : List Expr} {k : Nat} {g : FGs} {n : Nat} (hc : X.calm = true) (h : PFGs X es g) (hn : (assignEach es X.env).length = n := by rfl) (hst : (assignEach es X.env).findIdx? (·.1) = none := by rfl) : PFG X (.Tuple es k pos) (gtTup n g) := by
  refine ⟨fun W H σ en S d v Q he hs' r hp => PG_w (pg_tup hc pgs_w hn hst) ?_⟩
  cases d with
  | tup ds =>
    unfold DRel at r
    obtain ⟨a, vs, rfl, r1, r2⟩ := r
    simp only [gtTup] at hp
    split at hp
    · rename_i hl
      exact ⟨a, vs, rfl, r1, by rw [← r2.length]; exact hl, h.run W H σ en S ds vs Q he hs' r2 hp⟩
    · exact hp.elim
  | _ => exact hp.elim
def flG (r : Option (En × So)) : Fl := match r with
  | some (e, S) => .nx e S
  | none => .no
theorem postG {K : PySem.W.Frag} {W : Wd} {H : Hp} {r : Option (En × So)} {Z : Ends} {Wx : WX} (h : PostS K W H (flG r) Z Wx) : PostG K W H r Z.nx := by
  cases r with
  | none => exact h
  | some p => obtain ⟨e, S⟩ := p; exact h
def fAsg (f : FE) (g : FG) : FS := fun en S => fthen en (f en S) fun d S1 => flG (g d en S1)
theorem pfs_asg {g : FG} (he : PFE X Wx e fe) (hg : PFG X tg g) (hs : swapsWithSole [tg] e pos.line X.env = pure false := by rfl) (hw : swappedStores [tg] e X.env = pure none := by rfl)
    (h1 : (assignEach [tg] X.env).map (·.2) = [assign tg X.env] := by rfl) : PFS X Wx (.Assign [tg] e pos) (fAsg fe g) :=
  ⟨fun W H σ en S Z he' hs' hp => PS_w (ps_asg pe_w pg_w hs hw h1) (he.run W H σ en S _ he' hs' (post_then he' hp fun d S1 W1 H1 x e1 s1 r1 p1 => hg.run W1 H1 σ en S1 d x _ (he'.ext e1) s1 r1 (postG p1)))⟩
theorem pfs_set {i : Nat} {x : Str} {pos' : Pos} (hN : X.N.Nodup) (hi : X.N[i]? = some x) (hx : Loc X.env.scope x) (he : PFE X Wx e fe) (hs : swapsWith e (some (.Name x pos')) pos.line X.env = pure false := by rfl) (hf : X.fn x = true ∨ X.env.scope.names.lookup x = some .local := by first | exact .inl rfl | exact .inr rfl | assumption) :
    PFS X Wx (.Assign [.Name x pos'] e pos) (fAsg fe (gtName i)) :=
  ⟨fun W H σ en S Z he' hs' hp => PS_w (ps_set (i := i) hN hi hx pe_w hs hf) (he.run W H σ en S _ he' hs' (post_then he' hp fun d S1 W1 H1 x e1 s1 r1 p1 => p1 W1 H1 _ Ext.refl s1 ((he'.ext e1).set r1)))⟩
/-- a, b = x, y -/
def fPar (i j : Nat) (fa : FA) : FS := fun en S => fthen en (fa en S) fun ds S1 => match ds with
  | [d1, d2] => .nx ((en.set i (some d1)).set j (some d2)) S1
  | _ => .no
theorem pfs_par {i j : Nat} {x y : Str} {a b : Expr} {fa : FA} {px py pt : Pos} {kt k2 pt2} (hc : X.calm = true) (hN : X.N.Nodup) (hi : X.N[i]? = some x) (hj : X.N[j]? = some y) (hij : i ≠ j)
    (hx : X.env.scope.names.lookup x = some .local) (hy : X.env.scope.names.lookup y = some .local) (ha : PFA X Wx [a, b] fa)
    (hw : swappedStores [.Tuple [.Name x px, .Name y py] kt pt] (.Tuple [a, b] k2 pt2) X.env = pure (some [x, y]))
    (hs : swapsWithSole [.Tuple [.Name x px, .Name y py] kt pt] (.Tuple [a, b] k2 pt2) pos.line X.env = pure false := by rfl) :
    PFS X Wx (.Assign [.Tuple [.Name x px, .Name y py] kt pt] (.Tuple [a, b] k2 pt2) pos) (fPar i j fa) := by
  refine ⟨fun W H σ en S Z he' hs' hp => PS_w (ps_par hc hN hi hj hij hx hy pa_w hw hs) (ha.run W H σ en S _ he' hs' (post_then he' hp fun ds S1 W1 H1 vs e1 s1 r1 p1 => ?_))⟩
  match ds, r1, p1 with
  | [d1, d2], r1, p1 =>
    unfold DRels at r1
    obtain ⟨v1, vr, rfl, q1, r2⟩ := r1
    unfold DRels at r2
    obtain ⟨v2, vr2, rfl, q2, r3⟩ := r2
    unfold DRels at r3
    subst r3
    exact ⟨v1, v2, rfl, p1 W1 H1 _ Ext.refl s1 (((he'.ext e1).set q1).set q2)⟩
  | [], _, p1 => exact p1.elim
  | [_], _, p1 => exact p1.elim
  | _ :: _ :: _ :: _, _, p1 => exact p1.elim
/-- x op= e -/
def fAug (i : Nat) (f : FE) (g : G2) : FS := fun en S => match en[i]? with
  | some (some x) => fthen en (f en S) fun y S1 => match g x y S1 with
    | some (d, S2) => .nx (en.set i (some d)) S2
    | none => .no
  | _ => .no
theorem pfs_aug {i : Nat} {x : Str} {op : Operator} {r : R2} {g : G2} {pos' : Pos} (hN : X.N.Nodup) (hi : X.N[i]? = some x) (hx : Loc X.env.scope x) (ho : OpR X (inplaceOp op) r) (hg : OpD X.K r g) (he : PFE X Wx e fe)
    (hf : X.fn x = true ∨ X.env.scope.names.lookup x = some .local := by first | exact .inl rfl | exact .inr rfl | assumption) : PFS X Wx (.AugAssign (.Name x pos') op e pos) (fAug i fe g) := by
  refine ⟨fun W H σ en S Z he' hs' hp => PS_w (ps_aug (i := i) (ti := r) hN hi hx pe_w ho hf) ?_⟩
  unfold fAug at hp
  split at hp
  · rename_i d hd
    obtain ⟨v, hv, rv⟩ := he'.2 i d hd
    refine ⟨v, hv, he.run W H σ en S _ he' hs' (post_then he' hp fun y S1 W1 H1 u e1 s1 r1 p1 => ?_)⟩
    refine hg W1 H1 S1 v u d y _ s1 (rv.ext e1) r1 ?_
    cases q : g d y S1 with
    | none => rw [q] at p1; exact p1.elim
    | some p =>
      obtain ⟨d2, S2⟩ := p
      rw [q] at p1
      exact fun W2 H2 z e2 s2 r2 => p1 W2 H2 _ e2 s2 (((he'.ext e1).ext e2).set r2)
  · exact hp.elim
/-! while -/
def fWhile (c : FT) (b : FS) : Nat → FS
  | 0 => fun _ _ => .no
  | n + 1 => fun en S => fthen en (c en S) fun k S1 => if k = true then (match b en S1 with
    | .nx e2 S2 => fWhile c b n e2 S2
    | .ct e2 S2 => fWhile c b n e2 S2
    | .bk e2 S2 => .nx e2 S2
    | .rt d S2 => .rt d S2
    | .ex C e2 S2 => .ex C e2 S2
    | .no => .no) else .nx en S1
theorem pfs_while {c : Expr} {body : List Stmt} (n : Nat) (hp : PassesOwn (model X.prog X.w) X.A X.env X.xe) (hc : PFT X Wx c gt) (hb : PFB X Wx body f) : PFS X Wx (.While c body [] pos) (fWhile gt f n) := by
  refine ⟨fun W H σ en S Z he hs h => PS_w (ps_while hp pt_w pss_w) ?_⟩
  refine ⟨fun m σ1 H1 => ∃ W1 en1 S1, ERel X.K W1 H1 en1 σ1 ∧ SRel X.K W1 H1 S1 ∧ PostS X.K W1 H1 (fWhile gt f m en1 S1) Z Wx, ⟨n, W, en, S, he, hs, h⟩, ?_⟩
  rintro m σ1 H1 ⟨W1, en1, S1, he1, hs1, h1⟩
  cases m with
  | zero => exact h1.elim
  | succ m =>
    refine hc.run W1 H1 σ1 en1 S1 _ he1 hs1 (post_then he1 h1 fun k S2 W2 H2 x e2 s2 r2 p2 => ?_)
    cases r2
    cases k with
    | false => exact iteF (p2 W2 H2 σ1 Ext.refl s2 (he1.ext e2))
    | true =>
      refine iteT ⟨fun σ' H' => ∃ W1 en1 S1, ERel X.K W1 H' en1 σ' ∧ SRel X.K W1 H' S1 ∧ PostS X.K W1 H' (fWhile gt f m en1 S1) Z Wx, fun σ' H' q => ⟨m, Nat.lt_succ_self m, q⟩, ?_⟩
      refine hb.run W2 H2 σ1 en1 S2 _ (he1.ext e2) s2 ?_
      simp only [if_true] at p2
      cases q : f en1 S2 with
      | nx a b => rw [q] at p2; exact fun W' H' σ' x s r => ⟨W', a, b, r, s, PostS.later p2 x⟩
      | ct a b => rw [q] at p2; exact fun W' H' σ' x s r => ⟨W', a, b, r, s, PostS.later p2 x⟩
      | bk a b => rw [q] at p2; exact p2
      | rt a b => rw [q] at p2; exact p2
      | ex a b c => rw [q] at p2; exact p2
      | no => rw [q] at p2; exact p2
/-! for -/
/-- over fixed items -/
def forL (g : FG) (b : FS) : List D → FS
  | [] => fun en S => .nx en S
  | d :: ds => fun en S => match g d en S with
    | none => .no
    | some (e1, S1) => match b e1 S1 with
      | .nx e2 S2 => forL g b ds e2 S2
      | .ct e2 S2 => forL g b ds e2 S2
      | .bk e2 S2 => .nx e2 S2
      | .rt d S2 => .rt d S2
      | .ex C e2 S2 => .ex C e2 S2
      | .no => .no
/-- over a list of the store, k turns left at most -/
def forR (g : FG) (b : FS) (n : Nat) : Nat → Nat → FS
  | 0, _ => fun _ _ => .no
  | k + 1, i => fun en S => match S[n]? with
    | some (.lst ds) => match ds[i]? with
      | none => .nx en S
      | some d => match g d en S with
        | none => .no
        | some (e1, S1) => match b e1 S1 with
          | .nx e2 S2 => forR g b n k (i + 1) e2 S2
          | .ct e2 S2 => forR g b n k (i + 1) e2 S2
          | .bk e2 S2 => .nx e2 S2
          | .rt d S2 => .rt d S2
          | .ex C e2 S2 => .ex C e2 S2
          | .no => .no
    | _ => .no
def fFor (m : Nat) (fi : FI) (g : FG) (b : FS) : FS := fun en S => fthen en (fi en S) fun t S1 => match t with
  | .items ds => forL g b ds en S1
  | .live n => forR g b n m 0 en S1
theorem pfs_for {iter : Expr} {body : List Stmt} {fi : FI} {g : FG} (m : Nat) (hp : PassesOwn (model X.prog X.w) X.A X.env X.xe) (hc : X.calm = true) (hi : PFI X Wx tg iter fi) (hg : PFG X tg g) (hb : PFB X Wx body f)
    (hs : ∀ x, foldedSetIterable iter X.env x = pure x := by intro _; rfl) : PFS X Wx (.For tg iter body [] pos) (fFor m fi g f) := by
  refine ⟨fun W H σ en S Z he hs' h => PS_w (ps_for hp hc pi_w pg_w pss_w hs) ?_⟩
  refine hi.run W H σ en S _ he hs' (post_then he h fun t S1 W1 H1 J e1 s1 r1 p1 => ?_)
  cases t with
  | items ds =>
    refine ⟨fun i k σ2 H2 => ∃ W2 en2 S2, k = ds.length - i ∧ i ≤ ds.length ∧ Ext X.K W1 H1 W2 H2 ∧ ERel X.K W2 H2 en2 σ2 ∧ SRel X.K W2 H2 S2 ∧ PostS X.K W2 H2 (forL g f (ds.drop i) en2 S2) Z Wx, ⟨_, W1, en, S1, rfl, Nat.zero_le _, Ext.refl, he.ext e1, s1, p1⟩, ?_⟩
    rintro i k σ2 H2 ⟨W2, en2, S2, hk, hi', x2, he2, hs2, h2⟩
    have hr := r1 W2 H2 S2 x2 hs2 i
    by_cases c : i < ds.length
    · rw [List.drop_eq_getElem_cons c] at h2
      have ed : ItD.at S2 i (.items ds) = some (some ds[i]) := by simp only [ItD.at, List.getElem?_eq_getElem c]
      rw [ed] at hr
      obtain ⟨hgo, hy⟩ := hr
      refine .inr ⟨hgo, fun σ' H' => ∃ W2 en2 S2, i + 1 ≤ ds.length ∧ Ext X.K W1 H1 W2 H' ∧ ERel X.K W2 H' en2 σ' ∧ SRel X.K W2 H' S2 ∧ PostS X.K W2 H' (forL g f (ds.drop (i + 1)) en2 S2) Z Wx, ?_, ?_⟩
      · rintro σ' H' ⟨W3, en3, S3, hl3, q3, q4, q5, q6⟩
        exact ⟨ds.length - (i + 1), by omega, W3, en3, S3, rfl, hl3, q3, q4, q5, q6⟩
      · intro x H3 hx
        obtain ⟨x3, s3, r3⟩ := hy x H3 hx
        refine hg.run W2 H3 σ2 en2 S2 _ x _ (he2.ext x3) s3 r3 ?_
        unfold forL at h2
        cases q : g ds[i] en2 S2 with
        | none => rw [q] at h2; exact h2.elim
        | some p =>
          obtain ⟨e4, S4⟩ := p
          rw [q] at h2
          intro W5 H5 σ5 x5 s5 r5
          refine hb.run W5 H5 σ5 e4 S4 _ r5 s5 ?_
          have h2 := PostS.later h2 (x3.trans x5)
          simp only at h2
          cases q2 : f e4 S4 with
          | nx a b => rw [q2] at h2; exact fun W' H' σ' y s r => ⟨W', a, b, c, ((x2.trans x3).trans x5).trans y, r, s, PostS.later h2 y⟩
          | ct a b => rw [q2] at h2; exact fun W' H' σ' y s r => ⟨W', a, b, c, ((x2.trans x3).trans x5).trans y, r, s, PostS.later h2 y⟩
          | bk a b => rw [q2] at h2; exact h2
          | rt a b => rw [q2] at h2; exact h2
          | ex a b c => rw [q2] at h2; exact h2
          | no => rw [q2] at h2; exact h2
    · have ei : i = ds.length := by omega
      subst ei
      have ed : ItD.at S2 ds.length (.items ds) = some none := by simp only [ItD.at, List.getElem?_eq_none (Nat.le_refl _)]
      rw [ed] at hr
      rw [List.drop_length] at h2
      exact .inl ⟨hr, h2 W2 H2 σ2 Ext.refl hs2 he2⟩
  | live n =>
    refine ⟨fun i k σ2 H2 => ∃ W2 en2 S2, Ext X.K W1 H1 W2 H2 ∧ ERel X.K W2 H2 en2 σ2 ∧ SRel X.K W2 H2 S2 ∧ PostS X.K W2 H2 (forR g f n k i en2 S2) Z Wx, ⟨m, W1, en, S1, Ext.refl, he.ext e1, s1, p1⟩, ?_⟩
    rintro i k σ2 H2 ⟨W2, en2, S2, x2, he2, hs2, h2⟩
    have hr := r1 W2 H2 S2 x2 hs2 i
    cases k with
    | zero => exact h2.elim
    | succ k =>
      unfold forR at h2
      split at h2
      · rename_i ds hn
        cases c : ds[i]? with
        | none =>
          have ed : ItD.at S2 i (.live n) = some none := by simp only [ItD.at, hn, c]
          rw [ed] at hr
          rw [c] at h2
          exact .inl ⟨hr, h2 W2 H2 σ2 Ext.refl hs2 he2⟩
        | some d =>
          have ed : ItD.at S2 i (.live n) = some (some d) := by simp only [ItD.at, hn, c]
          rw [ed] at hr
          rw [c] at h2
          obtain ⟨hgo, hy⟩ := hr
          refine .inr ⟨hgo, fun σ' H' => ∃ W2 en2 S2, Ext X.K W1 H1 W2 H' ∧ ERel X.K W2 H' en2 σ' ∧ SRel X.K W2 H' S2 ∧ PostS X.K W2 H' (forR g f n k (i + 1) en2 S2) Z Wx, fun σ' H' q => ⟨k, Nat.lt_succ_self k, q⟩, ?_⟩
          intro x H3 hx
          obtain ⟨x3, s3, r3⟩ := hy x H3 hx
          refine hg.run W2 H3 σ2 en2 S2 _ x _ (he2.ext x3) s3 r3 ?_
          cases q : g d en2 S2 with
          | none => simp only [q] at h2; exact h2.elim
          | some p =>
            obtain ⟨e4, S4⟩ := p
            simp only [q] at h2
            intro W5 H5 σ5 x5 s5 r5
            refine hb.run W5 H5 σ5 e4 S4 _ r5 s5 ?_
            have h2 := PostS.later h2 (x3.trans x5)
            cases q2 : f e4 S4 with
            | nx a b => rw [q2] at h2; exact fun W' H' σ' y s r => ⟨W', a, b, ((x2.trans x3).trans x5).trans y, r, s, PostS.later h2 y⟩
            | ct a b => rw [q2] at h2; exact fun W' H' σ' y s r => ⟨W', a, b, ((x2.trans x3).trans x5).trans y, r, s, PostS.later h2 y⟩
            | bk a b => rw [q2] at h2; exact h2
            | rt a b => rw [q2] at h2; exact h2
            | ex a b c => rw [q2] at h2; exact h2
            | no => rw [q2] at h2; exact h2
      · exact h2.elim
end stmts
end PF

namespace PF
open PySem L2
variable [Tab]
/-! ### data read as rows -/
def lsOf (S : So) : D → Option (List D)
  | .lst ds => some ds
  | .ref n => match S[n]? with
    | some (.lst ds) => some ds
    | _ => none
  | _ => none
/-- a list or a tuple -/
def sqOf (S : So) : D → Option (List D)
  | .tup ds => some ds
  | d => lsOf S d
def intOf : D → Option Int
  | .int i => some i
  | _ => none
def intsOf : List D → Option (List Int)
  | [] => some []
  | d :: ds => match intOf d, intsOf ds with
    | some i, some r => some (i :: r)
    | _, _ => none
theorem intsOf_eq : ∀ {ds : List D} {ns : List Int}, intsOf ds = some ns → ds = ns.map D.int
  | [], ns, h => by simp only [intsOf] at h; cases h; rfl
  | d :: ds, ns, h => by
    simp only [intsOf] at h
    split at h
    · rename_i i r h1 h2
      cases h
      cases d <;> simp only [intOf] at h1 <;> cases h1
      rw [intsOf_eq h2, List.map_cons]
    · cases h
theorem intsOf_map : ∀ (ns : List Int), intsOf (ns.map D.int) = some ns
  | [] => rfl
  | n :: ns => by simp only [List.map_cons, intsOf, intOf, intsOf_map ns]
section rows
variable {K : PySem.W.Frag} {W : Wd} {H : Hp} {S : So} {d : D} {v : V} {ds : List D}
theorem lsOf_rel (s : SRel K W H S) (r : DRel K W H d v) (h : lsOf S d = some ds) : ∃ a vs, v = .ref a ∧ H a = some (.lst vs) ∧ DRels K W H ds vs := by
  cases d with
  | lst es =>
    simp only [lsOf] at h; cases h
    unfold DRel at r; obtain ⟨a, vs, rfl, h1, h2⟩ := r
    exact ⟨a, vs, rfl, h1.2, h2⟩
  | ref n =>
    simp only [lsOf] at h
    unfold DRel at r; obtain ⟨a, rfl, h1⟩ := r
    split at h
    · rename_i es hn
      cases h
      obtain ⟨vs, h2, h3⟩ := s.obj n a _ h1 hn
      exact ⟨a, vs, rfl, h2, h3⟩
    · cases h
  | _ => simp only [lsOf] at h; cases h
theorem sqOf_rel (s : SRel K W H S) (r : DRel K W H d v) (h : sqOf S d = some ds) : ∃ a vs, v = .ref a ∧ (SqL K H a vs ∨ SqT K H a vs) ∧ DRels K W H ds vs := by
  cases d with
  | tup es =>
    simp only [sqOf] at h; cases h
    unfold DRel at r; obtain ⟨a, vs, rfl, h1, h2⟩ := r
    exact ⟨a, vs, rfl, .inr h1, h2⟩
  | lst es =>
    obtain ⟨a, vs, e, h1, h2⟩ := lsOf_rel s r (show lsOf S (.lst es) = some ds from h)
    exact ⟨a, vs, e, .inl (.of h1), h2⟩
  | ref n =>
    obtain ⟨a, vs, e, h1, h2⟩ := lsOf_rel s r (show lsOf S (.ref n) = some ds from h)
    exact ⟨a, vs, e, .inl (.of h1), h2⟩
  | _ => simp only [sqOf, lsOf] at h; cases h
end rows
/-! ### operators on data -/
def gI (g : Int → Int → Int) : G2 := fun a b S => match a, b with
  | .int i, .int j => some (.int (g i j), S)
  | _, _ => none
def gIc (c : Int → Int → Bool) (g : Int → Int → Int) : G2 := fun a b S => match a, b with
  | .int i, .int j => if c i j = true then some (.int (g i j), S) else none
  | _, _ => none
def gB (g : Int → Int → Bool) : G2 := fun a b S => match a, b with
  | .int i, .int j => some (.bl (g i j), S)
  | _, _ => none
section opd
variable {K : PySem.W.Frag}
theorem PostO.here {W : Wd} {H : Hp} {d : D} {S : So} {Q : VK} {v : V} (p : PostO K W H (some (d, S)) Q) (s : SRel K W H S) (r : DRel K W H d v) : Q v H := p W H v Ext.refl s r
theorem opd_I {g : Int → Int → Int} : OpD K (rI0 fun i j => .int (g i j)) (gI g) := by
  intro W H S x y a b Q s ra rb p
  cases a <;> cases b <;> first | exact p.elim | skip
  unfold DRel at ra rb
  exact ⟨_, _, ra, rb, p.here s (by unfold DRel; rfl)⟩
theorem opd_Ic {C : Int → Int → Prop} {c : Int → Int → Bool} {g : Int → Int → Int} (h : ∀ i j, c i j = true → C i j) : OpD K (rI C fun i j => .int (g i j)) (gIc c g) := by
  intro W H S x y a b Q s ra rb p
  cases a <;> cases b <;> first | exact p.elim | skip
  unfold DRel at ra rb
  simp only [gIc] at p
  split at p
  · exact ⟨_, _, ra, rb, h _ _ (by assumption), p.here s (by unfold DRel; rfl)⟩
  · exact p.elim
theorem opd_B {g : Int → Int → Bool} : OpD K (rI0 fun i j => .bl (g i j)) (gB g) := by
  intro W H S x y a b Q s ra rb p
  cases a <;> cases b <;> first | exact p.elim | skip
  unfold DRel at ra rb
  exact ⟨_, _, ra, rb, p.here s (by unfold DRel; rfl)⟩
def gMinus : G2 := gI fun i j => i - j
def cMul (i j : Int) : Bool := (decide (-(2 ^ 64) < i) && decide (i < 2 ^ 64)) || (decide (-(2 ^ 64) < j) && decide (j < 2 ^ 64))
def gFdiv : G2 := gIc (fun _ j => decide (0 < j) && decide (j < 1073741824)) fun i j => i / j
def gMod : G2 := gIc (fun _ j => decide (0 < j)) fun i j => i % j
def gPow : G2 := gIc (fun i j => decide (0 ≤ j) && decide (j ≤ 1000000) && decide (i.natAbs < 2 ^ 64)) fun i j => i ^ j.toNat
theorem opd_sub : OpD K (rI0 fun i j => .int (i - j)) gMinus := opd_I
theorem opd_fdiv : OpD K (rI CDiv fun i j => .int (i / j)) gFdiv := opd_Ic fun i j h => by
  simp only [Bool.and_eq_true, decide_eq_true_eq] at h; exact h
theorem opd_mod : OpD K (rI (fun _ j => 0 < j) fun i j => .int (i % j)) gMod := opd_Ic fun i j h => by
  simp only [decide_eq_true_eq] at h; exact h
theorem opd_pow : OpD K (rI CPow fun i j => .int (i ^ j.toNat)) gPow := opd_Ic fun i j h => by
  simp only [Bool.and_eq_true, decide_eq_true_eq] at h; exact ⟨h.1.1, h.1.2, h.2⟩
theorem cMul_ok {i j : Int} (h : cMul i j = true) : CMul i j := by
  simp only [cMul, Bool.or_eq_true, Bool.and_eq_true, decide_eq_true_eq] at h; exact h
/-- x + y -/
def gAdd (mu : Bool) : G2 := fun a b S => match a, b with
  | .int i, .int j => some (.int (i + j), S)
  | .str x, .str y => if x.length + y.length ≤ sizeLine then some (.str (x ++ y), S) else none
  | .tup xs, .tup ys => if xs.length + ys.length ≤ sizeLine then some (.tup (xs ++ ys), S) else none
  | a, b => match lsOf S a, lsOf S b with
    | some xs, some ys => if xs.length + ys.length ≤ sizeLine then some (newL mu (xs ++ ys) S) else none
    | _, _ => none
def rAddS : R2 := fun x y H Q => ∃ i j, x = .str i ∧ y = .str j ∧ i.length + j.length ≤ sizeLine ∧ Q (.str (i ++ j)) H
def rAddA (K : PySem.W.Frag) : R2 := fun x y H Q => rI0 (fun i j => .int (i + j)) x y H Q ∨ rAddS x y H Q ∨ rCatA K x y H Q ∨ rCat x y H Q
theorem op_addA {X : Cx} : OpR X (binaryOp .Add) (rAddA X.K) := op_add.or (op_add_str.or (op_catA.or op_cat))
theorem drel_same {W : Wd} {H : Hp} {a : Addr} {vs : List V} {ds : List D} (h : SqT K H a vs) (r : DRels K W H ds vs) : DRel K W H (.tup ds) (.ref a) := by
  unfold DRel; exact ⟨a, vs, rfl, h, r⟩
theorem cat_new {W : Wd} {H : Hp} {S : So} {x y : V} {a b : D} {xs ys : List D} {Q : VK} (mu : Bool) (s : SRel K W H S) (ra : DRel K W H a x) (rb : DRel K W H b y) (ha : lsOf S a = some xs) (hb : lsOf S b = some ys)
    (p : PostO K W H (if xs.length + ys.length ≤ sizeLine then some (newL mu (xs ++ ys) S) else none) Q) : rCat x y H Q := by
  obtain ⟨p1, vs, e1, h1, r1⟩ := lsOf_rel s ra ha
  obtain ⟨p2, us, e2, h2, r2⟩ := lsOf_rel s rb hb
  split at p
  · rename_i hl
    exact ⟨p1, p2, vs, us, e1, e2, h1, h2, by rw [← r1.length, ← r2.length]; exact hl, fun q hq => new_list mu s (r1.append r2) p hq⟩
  · exact p.elim
theorem opd_add (mu : Bool) : OpD K (rAddA K) (gAdd mu) := by
  intro W H S x y a b Q s ra rb p
  have fin : ∀ (a b : D), DRel K W H a x → DRel K W H b y → PostO K W H (match lsOf S a, lsOf S b with
    | some xs, some ys => if xs.length + ys.length ≤ sizeLine then some (newL mu (xs ++ ys) S) else none
    | _, _ => none) Q → rCat x y H Q := fun a b ra rb p => by
    split at p
    · exact cat_new mu s ra rb (by assumption) (by assumption) p
    · exact p.elim
  unfold gAdd at p
  split at p
  · unfold DRel at ra rb; exact .inl ⟨_, _, ra, rb, p.here s (by unfold DRel; rfl)⟩
  · unfold DRel at ra rb
    split at p
    · exact .inr (.inl ⟨_, _, ra, rb, by assumption, p.here s (by unfold DRel; rfl)⟩)
    · exact p.elim
  · rename_i xs ys
    have ra' := ra; have rb' := rb
    unfold DRel at ra rb
    obtain ⟨p1, vs, e1, h1, r1⟩ := ra
    obtain ⟨p2, us, e2, h2, r2⟩ := rb
    split at p
    · rename_i hl
      refine .inr (.inr (.inl ⟨p1, p2, vs, us, e1, e2, h1, h2, by rw [← r1.length, ← r2.length]; exact hl, ?_⟩))
      refine ⟨fun ex => ?_, fun _ ey => ?_, fun _ _ q hq => new_tup s (r1.append r2) p hq⟩
      · have : xs = [] := by cases xs with
          | nil => rfl
          | cons _ _ => have := r1.length; rw [ex] at this; simp at this
        subst this
        exact p.here s (drel_same h2 r2)
      · have : ys = [] := by cases ys with
          | nil => rfl
          | cons _ _ => have := r2.length; rw [ey] at this; simp at this
        subst this
        rw [List.append_nil] at p
        exact p.here s (drel_same h1 r1)
    · exact p.elim
  · exact .inr (.inr (.inr (fin _ _ ra rb p)))
/-- x * y -/
def gMul (mu : Bool) : G2 := fun a b S => match a, b with
  | .int i, .int j => if cMul i j = true then some (.int (i * j), S) else none
  | a, .int k => match lsOf S a with
    | some xs => if -(2 ^ 63) ≤ k ∧ k < 2 ^ 63 ∧ xs.length * k.toNat ≤ sizeLine then some (newL mu (List.replicate k.toNat xs).flatten S) else none
    | none => none
  | _, _ => none
def rMulA : R2 := fun x y H Q => rI CMul (fun i j => .int (i * j)) x y H Q ∨ rRep x y H Q
theorem op_mulA {X : Cx} : OpR X (binaryOp .Mult) rMulA := op_mul.or op_rep
theorem opd_mul (mu : Bool) : OpD K rMulA (gMul mu) := by
  intro W H S x y a b Q s ra rb p
  unfold gMul at p
  split at p
  · unfold DRel at ra rb
    split at p
    · exact .inl ⟨_, _, ra, rb, cMul_ok (by assumption), p.here s (by unfold DRel; rfl)⟩
    · exact p.elim
  · unfold DRel at rb
    split at p
    · rename_i xs hx
      obtain ⟨p1, vs, e1, h1, r1⟩ := lsOf_rel s ra hx
      split at p
      · rename_i hc
        exact .inr ⟨p1, _, vs, e1, rb, h1, hc.1, hc.2.1, by rw [← r1.length]; exact hc.2.2, fun q hq => new_list mu s (r1.rep _) p hq⟩
      · exact p.elim
    · exact p.elim
  · exact p.elim
/-! comparisons -/
def gLe : G2 := gB fun i j => decide (i ≤ j)
def gGe : G2 := gB fun i j => decide (j ≤ i)
/-- < of ints, texts, tuples of ints -/
def gLt : G2 := fun a b S => match a, b with
  | .int i, .int j => some (.bl (decide (i < j)), S)
  | .str x, .str y => some (.bl (decide (x.cps.toList < y.cps.toList)), S)
  | .tup xs, .tup ys => match intsOf xs, intsOf ys with
    | some ns, some ms => some (.bl (HT.lexLt ns ms), S)
    | _, _ => none
  | _, _ => none
def rLtS : R2 := fun x y H Q => ∃ i j, x = .str i ∧ y = .str j ∧ Q (.bl (decide (i.cps.toList < j.cps.toList))) H
def rLtA (K : PySem.W.Frag) : R2 := fun x y H Q => rI0 (fun i j => .bl (decide (i < j))) x y H Q ∨ rLtS x y H Q ∨ rLtT K x y H Q
theorem op_ltA {X : Cx} (hu : X.A.units < cLine) : OpR X (compareOp .Lt) (rLtA X.K) := op_lt.or (op_lt_str.or (op_ltT hu))
theorem tup_ints {W : Wd} {H : Hp} {x : V} {xs : List D} {ns : List Int} (r : DRel K W H (.tup xs) x) (h : intsOf xs = some ns) : ∃ a, x = .ref a ∧ SqT K H a (ns.map V.int) := by
  unfold DRel at r
  obtain ⟨a, vs, e, h1, h2⟩ := r
  rw [intsOf_eq h] at h2
  rw [DRels.ints_of h2] at h1
  exact ⟨a, e, h1⟩
theorem opd_lt : OpD K (rLtA K) gLt := by
  intro W H S x y a b Q s ra rb p
  unfold gLt at p
  split at p
  · unfold DRel at ra rb; exact .inl ⟨_, _, ra, rb, p.here s (by unfold DRel; rfl)⟩
  · unfold DRel at ra rb; exact .inr (.inl ⟨_, _, ra, rb, p.here s (by unfold DRel; rfl)⟩)
  · split at p
    · rename_i h1 h2
      obtain ⟨p1, e1, t1⟩ := tup_ints ra h1
      obtain ⟨p2, e2, t2⟩ := tup_ints rb h2
      exact .inr (.inr ⟨p1, p2, _, _, e1, e2, t1, t2, p.here s (by unfold DRel; rfl)⟩)
    · exact p.elim
  · exact p.elim
theorem opd_le : OpD K (rI0 fun i j => .bl (decide (i ≤ j))) gLe := opd_B
theorem opd_ge : OpD K (rI0 fun i j => .bl (decide (j ≤ i))) gGe := opd_B
def gGt : G2 := gB fun i j => decide (j < i)
theorem opd_gt : OpD K (rI0 fun i j => .bl (decide (j < i))) gGt := opd_B
/-! is None -/
def isNon : D → Bool
  | .non => true
  | _ => false
theorem isNon_rel {W : Wd} {H : Hp} {d : D} {v : V} (r : DRel K W H d v) : decide (v = .non) = isNon d := by
  cases d with
  | non => unfold DRel at r; subst r; rfl
  | bl b => unfold DRel at r; subst r; rfl
  | int b => unfold DRel at r; subst r; rfl
  | str b => unfold DRel at r; subst r; rfl
  | tup ds => unfold DRel at r; obtain ⟨a, vs, rfl, _⟩ := r; rfl
  | lst ds => unfold DRel at r; obtain ⟨a, vs, rfl, _⟩ := r; rfl
  | ref n => unfold DRel at r; obtain ⟨a, rfl, _⟩ := r; rfl
  | scr n => unfold DRel at r; obtain ⟨a, rfl, _⟩ := r; rfl
def gIs : G2 := fun a b S => match b with
  | .non => some (.bl (isNon a), S)
  | _ => none
def gIsNot : G2 := fun a b S => match b with
  | .non => some (.bl (!isNon a), S)
  | _ => none
theorem opd_is : OpD K (fun x y H Q => y = .non ∧ Q (.bl (decide (x = .non))) H) gIs := by
  intro W H S x y a b Q s ra rb p
  cases b <;> first | exact p.elim | skip
  unfold DRel at rb
  exact ⟨rb, by rw [isNon_rel ra]; exact p.here s (by unfold DRel; rfl)⟩
theorem opd_isnot : OpD K (fun x y H Q => y = .non ∧ Q (.bl (!decide (x = .non))) H) gIsNot := by
  intro W H S x y a b Q s ra rb p
  cases b <;> first | exact p.elim | skip
  unfold DRel at rb
  exact ⟨rb, by rw [isNon_rel ra]; exact p.here s (by unfold DRel; rfl)⟩
/-! == at any depth -/
mutual
def pd0 : D → Option PyData
  | .non => some .none
  | .bl b => some (.bool b)
  | .int i => some (.int i)
  | .str x => some (.str x)
  | .tup ds => match pds ds with
    | some r => some (.tuple r)
    | none => none
  | .lst ds => match pds ds with
    | some r => some (.list r)
    | none => none
  | .ref _ => none
  | .scr _ => none
def pds : List D → Option (List PyData)
  | [] => some []
  | d :: ds => match pd0 d, pds ds with
    | some x, some r => some (x :: r)
    | _, _ => none
end
def pdOf (S : So) : D → Option PyData
  | .ref n => match S[n]? with
    | some (.lst ds) => match pds ds with
      | some r => some (.list r)
      | none => none
    | _ => none
  | d => pd0 d
mutual
theorem pd0_rel {W : Wd} {H : Hp} : ∀ {d : D} {v : V} {x : PyData}, DRel K W H d v → pd0 d = some x → Dp K H v x
  | .non, v, x, r, h => by unfold DRel at r; subst r; simp only [pd0] at h; cases h; exact .non
  | .bl b, v, x, r, h => by unfold DRel at r; subst r; simp only [pd0] at h; cases h; exact .bl b
  | .int b, v, x, r, h => by unfold DRel at r; subst r; simp only [pd0] at h; cases h; exact .int b
  | .str b, v, x, r, h => by unfold DRel at r; subst r; simp only [pd0] at h; cases h; exact .str b
  | .tup ds, v, x, r, h => by
    unfold DRel at r; obtain ⟨a, vs, rfl, h1, h2⟩ := r
    simp only [pd0] at h
    split at h
    · cases h; exact .tup h1 (pds_rel h2 (by assumption))
    · cases h
  | .lst ds, v, x, r, h => by
    unfold DRel at r; obtain ⟨a, vs, rfl, h1, h2⟩ := r
    simp only [pd0] at h
    split at h
    · cases h; exact .lst h1.sq (pds_rel h2 (by assumption))
    · cases h
  | .ref n, v, x, r, h => by simp only [pd0] at h; cases h
  | .scr n, v, x, r, h => by simp only [pd0] at h; cases h
theorem pds_rel {W : Wd} {H : Hp} : ∀ {ds : List D} {vs : List V} {xs : List PyData}, DRels K W H ds vs → pds ds = some xs → DpAll K H vs xs
  | [], vs, xs, r, h => by unfold DRels at r; subst r; simp only [pds] at h; cases h; exact .nil
  | d :: ds, vs, xs, r, h => by
    unfold DRels at r; obtain ⟨v, vr, rfl, h1, h2⟩ := r
    simp only [pds] at h
    split at h
    · cases h; exact .cons (pd0_rel h1 (by assumption)) (pds_rel h2 (by assumption))
    · cases h
end
theorem pdOf_rel {W : Wd} {H : Hp} {S : So} {d : D} {v : V} {x : PyData} (s : SRel K W H S) (r : DRel K W H d v) (h : pdOf S d = some x) : Dp K H v x := by
  unfold pdOf at h
  split at h
  · rename_i n
    unfold DRel at r; obtain ⟨a, rfl, h1⟩ := r
    split at h
    · rename_i es hn
      obtain ⟨vs, h2, h3⟩ := s.obj n a _ h1 hn
      split at h
      · cases h; exact .lst (.of h2) (pds_rel h3 (by assumption))
      · cases h
    · cases h
  · exact pd0_rel r h
def eqD (S : So) (a b : D) : Option Bool := match pdOf S a, pdOf S b with
  | some x, some y => if SeqAt.shaped x = true ∧ SeqAt.shaped y = true then some (PyData.eqv x y) else none
  | _, _ => none
def gEq : G2 := fun a b S => match eqD S a b with
  | some k => some (.bl k, S)
  | none => none
def gNe : G2 := fun a b S => match eqD S a b with
  | some k => some (.bl (!k), S)
  | none => none
theorem eqD_rel {W : Wd} {H : Hp} {S : So} {a b : D} {x y : V} {k : Bool} (s : SRel K W H S) (ra : DRel K W H a x) (rb : DRel K W H b y) (h : eqD S a b = some k) :
    ∃ d e, Dp K H x d ∧ Dp K H y e ∧ SeqAt.shaped d = true ∧ SeqAt.shaped e = true ∧ PyData.eqv d e = k := by
  unfold eqD at h
  split at h
  · rename_i d e h1 h2
    split at h
    · rename_i hc
      cases h
      exact ⟨d, e, pdOf_rel s ra h1, pdOf_rel s rb h2, hc.1, hc.2, rfl⟩
    · cases h
  · cases h
theorem opd_eq : OpD K (rEqD K) gEq := by
  intro W H S x y a b Q s ra rb p
  unfold gEq at p
  split at p
  · rename_i k hk
    obtain ⟨d, e, h1, h2, h3, h4, h5⟩ := eqD_rel s ra rb hk
    exact ⟨d, e, h1, h2, h3, h4, by rw [h5]; exact p.here s (by unfold DRel; rfl)⟩
  · exact p.elim
theorem opd_ne : OpD K (rNeD K) gNe := by
  intro W H S x y a b Q s ra rb p
  unfold gNe at p
  split at p
  · rename_i k hk
    obtain ⟨d, e, h1, h2, h3, h4, h5⟩ := eqD_rel s ra rb hk
    exact ⟨d, e, h1, h2, h3, h4, by rw [h5]; exact p.here s (by unfold DRel; rfl)⟩
  · exact p.elim
end opd
end PF

namespace PF
open PySem L2
variable [Tab]
/-! ### calls of built-ins -/
abbrev GA := List D → So → Option (D × So)
def CallD (K : PySem.W.Frag) (r : List V → Hp → VK → Prop) (g : GA) : Prop := ∀ (W : Wd) (H : Hp) (S : So) (vs : List V) (ds : List D) (Q : VK), SRel K W H S → DRels K W H ds vs → PostO K W H (g ds S) Q → r vs H Q
def fCB (g : GA) (fa : FA) : FE := fun en S => (fa en S).bind fun ds S1 => ofO (g ds S1)
section calls
variable {X : Cx} {Wx : WX} {x : Str} {p pos : Pos} {e : Expr} {es : List Expr} {fa : FA} {id T : String} {r : List V → Hp → VK → Prop} {g : GA}
theorem pf_callB (hc : CallR X (.builtin id) r) (hd : CallD X.K r g) (hg : Gl X x) (hm : X.mg x = none) (ha : PFA X Wx (e :: es) fa) (hv : bootBuiltins x = some (.builtin id) := by decide +kernel) (hn : x ≠ "__name__" := by decide)
    (hdb : (x == ("__debug__" : Str)) = false := by decide) (he : starEach (e :: es) X.env = (false, eval e X.env) :: starEach es X.env := by rfl) (hpl : (backTo pos (starEach es X.env)).any (·.1) = false := by rfl) :
    PFE X Wx (.Call (.Name x p) (e :: es) [] pos) (fCB g fa) :=
  ⟨fun W H σ en S Q he' hs hp => PE_w (pe_callB hc hg hm hv pa_w (hn := hn) (hdb := hdb) (he := he) (hpl := hpl)) (ha.run W H σ en S _ he' hs (Post.bind hp fun ds S1 W1 H1 vs e1 s1 r1 p1 => hd W1 H1 S1 vs ds Q s1 r1 (postO p1)))⟩
theorem pf_callTy (hc : CallR X (.type T) r) (hd : CallD X.K r g) (hg : Gl X x) (hm : X.mg x = none) (ha : PFA X Wx (e :: es) fa) (hv : bootBuiltins x = some (.type T) := by decide +kernel) (hn : x ≠ "__name__" := by decide)
    (hdb : (x == ("__debug__" : Str)) = false := by decide) (he : starEach (e :: es) X.env = (false, eval e X.env) :: starEach es X.env := by rfl) (hpl : (backTo pos (starEach es X.env)).any (·.1) = false := by rfl) :
    PFE X Wx (.Call (.Name x p) (e :: es) [] pos) (fCB g fa) :=
  ⟨fun W H σ en S Q he' hs hp => PE_w (pe_callTy hc hg hm hv pa_w (hn := hn) (hdb := hdb) (he := he) (hpl := hpl)) (ha.run W H σ en S _ he' hs (Post.bind hp fun ds S1 W1 H1 vs e1 s1 r1 p1 => hd W1 H1 S1 vs ds Q s1 r1 (postO p1)))⟩
end calls
section one
variable {K : PySem.W.Frag}
theorem drels1 {W : Wd} {H : Hp} {d : D} {vs : List V} (h : DRels K W H [d] vs) : ∃ v, vs = [v] ∧ DRel K W H d v := by
  unfold DRels at h
  obtain ⟨v, r, rfl, h1, h2⟩ := h
  unfold DRels at h2
  subst h2
  exact ⟨v, rfl, h1⟩
theorem drels2 {W : Wd} {H : Hp} {d e : D} {vs : List V} (h : DRels K W H [d, e] vs) : ∃ v u, vs = [v, u] ∧ DRel K W H d v ∧ DRel K W H e u := by
  unfold DRels at h
  obtain ⟨v, r, rfl, h1, h2⟩ := h
  obtain ⟨u, rfl, h3⟩ := drels1 h2
  exact ⟨v, u, rfl, h1, h3⟩
theorem dint {W : Wd} {H : Hp} {i : Int} : DRel K W H (.int i) (.int i) := by unfold DRel; rfl
theorem dbl {W : Wd} {H : Hp} {i : Bool} : DRel K W H (.bl i) (.bl i) := by unfold DRel; rfl
theorem dstr {W : Wd} {H : Hp} {i : Str} : DRel K W H (.str i) (.str i) := by unfold DRel; rfl
theorem dnon {W : Wd} {H : Hp} : DRel K W H .non .non := by unfold DRel; rfl
/-- len -/
def gLen : GA := fun ds S => match ds with
  | [.str z] => if z.length ≤ sizeLine then some (.int z.length, S) else none
  | [.ref n] => match S[n]? with
    | some (.lst xs) => some (.int xs.length, S)
    | some (.dic kvs) => some (.int kvs.length, S)
    | _ => none
  | [.tup xs] => some (.int xs.length, S)
  | [.lst xs] => some (.int xs.length, S)
  | _ => none
theorem krel_len {W : Wd} {H : Hp} : ∀ {ds : List (Key × D)} {vs : List (Key × V)}, KRel K W H ds vs → ds.length = vs.length
  | [], vs, h => by unfold KRel at h; subst h; rfl
  | (k, d) :: ds, vs, h => by unfold KRel at h; obtain ⟨v, r, rfl, _, h3⟩ := h; simp [krel_len h3]
def rLenA (K : PySem.W.Frag) : List V → Hp → VK → Prop := fun xs H Q => (∃ p ys, xs = [.ref p] ∧ (SqL K H p ys ∨ SqT K H p ys) ∧ Q (.int ys.length) H) ∨ (∃ z, xs = [.str z] ∧ z.length ≤ sizeLine ∧ Q (.int z.length) H) ∨ (∃ a kvs, xs = [V.ref a] ∧ H a = some (.dK kvs) ∧ Q (.int kvs.length) H)
theorem call_lenA {X : Cx} : CallR X (.builtin "len") (rLenA X.K) := call_len_seq.or (call_len_str.or call_lenD)
theorem cd_len : CallD K (rLenA K) gLen := by
  intro W H S vs ds Q s r p
  unfold gLen at p
  split at p
  · obtain ⟨v, rfl, h1⟩ := drels1 r
    unfold DRel at h1; subst h1
    split at p
    · exact .inr (.inl ⟨_, rfl, by assumption, p.here s dint⟩)
    · exact p.elim
  · obtain ⟨v, rfl, h1⟩ := drels1 r
    unfold DRel at h1; obtain ⟨a, rfl, h1⟩ := h1
    split at p
    · rename_i hn
      obtain ⟨us, h2, h3⟩ := s.obj _ a _ h1 hn
      exact .inl ⟨a, us, rfl, .inl (.of h2), by rw [← h3.length]; exact p.here s dint⟩
    · rename_i hn
      obtain ⟨us, h2, h3⟩ := s.obj _ a _ h1 hn
      exact .inr (.inr ⟨a, us, rfl, h2, by rw [← krel_len h3]; exact p.here s dint⟩)
    · exact p.elim
  · obtain ⟨v, rfl, h1⟩ := drels1 r
    unfold DRel at h1; obtain ⟨a, us, rfl, h1, h2⟩ := h1
    exact .inl ⟨a, us, rfl, .inr h1, by rw [← h2.length]; exact p.here s dint⟩
  · obtain ⟨v, rfl, h1⟩ := drels1 r
    unfold DRel at h1; obtain ⟨a, us, rfl, h1, h2⟩ := h1
    exact .inl ⟨a, us, rfl, .inl h1.sq, by rw [← h2.length]; exact p.here s dint⟩
  · exact p.elim
/-- abs, int -/
def gAbs : GA := fun ds S => match ds with
  | [.int i] => some (.int (if i < 0 then -i else i), S)
  | _ => none
theorem cd_abs : CallD K (fun xs H Q => ∃ i, xs = [.int i] ∧ Q (.int (if i < 0 then -i else i)) H) gAbs := by
  intro W H S vs ds Q s r p
  unfold gAbs at p
  split at p
  · obtain ⟨v, rfl, h1⟩ := drels1 r
    unfold DRel at h1; subst h1
    exact ⟨_, rfl, p.here s dint⟩
  · exact p.elim
def gInt : GA := fun ds S => match ds with
  | [.int i] => some (.int i, S)
  | [.bl k] => some (.int (if k then 1 else 0), S)
  | _ => none
theorem cd_int : CallD K (fun xs H Q => (∃ i, xs = [.int i] ∧ Q (.int i) H) ∨ ∃ k, xs = [.bl k] ∧ Q (.int (if k then 1 else 0)) H) gInt := by
  intro W H S vs ds Q s r p
  unfold gInt at p
  split at p
  · obtain ⟨v, rfl, h1⟩ := drels1 r
    unfold DRel at h1; subst h1
    exact .inl ⟨_, rfl, p.here s dint⟩
  · obtain ⟨v, rfl, h1⟩ := drels1 r
    unfold DRel at h1; subst h1
    exact .inr ⟨_, rfl, p.here s dint⟩
  · exact p.elim
/-- str(int) -/
def gStr : GA := fun ds S => match ds with
  | [.int i] => if i.natAbs.log2 < 1920 then some (.str (toString i), S) else none
  | _ => none
theorem cd_str : CallD K (fun xs H Q => ∃ i, xs = [.int i] ∧ i.natAbs.log2 < 1920 ∧ Q (.str (toString i)) H) gStr := by
  intro W H S vs ds Q s r p
  unfold gStr at p
  split at p
  · obtain ⟨v, rfl, h1⟩ := drels1 r
    unfold DRel at h1; subst h1
    split at p
    · exact ⟨_, rfl, by assumption, p.here s dstr⟩
    · exact p.elim
  · exact p.elim
/-- the least, the greatest one -/
def least1 : List Int → Int → Int
  | [], m => m
  | x :: xs, m => least1 xs (if x < m then x else m)
def most1 : List Int → Int → Int
  | [], m => m
  | x :: xs, m => most1 xs (if x > m then x else m)
def leastI : List Int → Int
  | [] => 0
  | x :: xs => least1 xs x
def mostI : List Int → Int
  | [] => 0
  | x :: xs => most1 xs x
theorem least1_spec : ∀ (xs : List Int) (m : Int), (least1 xs m = m ∨ least1 xs m ∈ xs) ∧ least1 xs m ≤ m ∧ ∀ y ∈ xs, least1 xs m ≤ y
  | [], m => ⟨.inl rfl, Int.le_refl _, by simp⟩
  | x :: xs, m => by
    obtain ⟨h1, h2, h3⟩ := least1_spec xs (if x < m then x else m)
    unfold least1
    refine ⟨?_, ?_, ?_⟩
    · rcases h1 with h1 | h1
      · split at h1
        · right; rw [if_pos (by assumption), h1]; simp
        · left; rw [if_neg (by assumption), h1]
      · right; exact List.mem_cons_of_mem _ h1
    · split at h2 <;> split <;> omega
    · intro y hy
      rcases List.mem_cons.mp hy with rfl | hy
      · split at h2 <;> split <;> omega
      · exact h3 y hy
theorem most1_spec : ∀ (xs : List Int) (m : Int), (most1 xs m = m ∨ most1 xs m ∈ xs) ∧ m ≤ most1 xs m ∧ ∀ y ∈ xs, y ≤ most1 xs m
  | [], m => ⟨.inl rfl, Int.le_refl _, by simp⟩
  | x :: xs, m => by
    obtain ⟨h1, h2, h3⟩ := most1_spec xs (if x > m then x else m)
    unfold most1
    refine ⟨?_, ?_, ?_⟩
    · rcases h1 with h1 | h1
      · split at h1
        · right; rw [if_pos (by assumption), h1]; simp
        · left; rw [if_neg (by assumption), h1]
      · right; exact List.mem_cons_of_mem _ h1
    · split at h2 <;> split <;> omega
    · intro y hy
      rcases List.mem_cons.mp hy with rfl | hy
      · split at h2 <;> split <;> omega
      · exact h3 y hy
theorem leastI_spec {xs : List Int} (h : xs ≠ []) : leastI xs ∈ xs ∧ ∀ y ∈ xs, leastI xs ≤ y := by
  cases xs with
  | nil => exact absurd rfl h
  | cons x xs =>
    obtain ⟨h1, h2, h3⟩ := least1_spec xs x
    refine ⟨?_, ?_⟩
    · show least1 xs x ∈ _
      rcases h1 with h1 | h1
      · rw [h1]; simp
      · exact List.mem_cons_of_mem _ h1
    · intro y hy
      rcases List.mem_cons.mp hy with rfl | hy
      · exact h2
      · exact h3 y hy
theorem mostI_spec {xs : List Int} (h : xs ≠ []) : mostI xs ∈ xs ∧ ∀ y ∈ xs, y ≤ mostI xs := by
  cases xs with
  | nil => exact absurd rfl h
  | cons x xs =>
    obtain ⟨h1, h2, h3⟩ := most1_spec xs x
    refine ⟨?_, ?_⟩
    · show most1 xs x ∈ _
      rcases h1 with h1 | h1
      · rw [h1]; simp
      · exact List.mem_cons_of_mem _ h1
    · intro y hy
      rcases List.mem_cons.mp hy with rfl | hy
      · exact h2
      · exact h3 y hy
def gMin : GA := fun ds S => match ds with
  | [.int i, .int j] => some (.int (if j < i then j else i), S)
  | [d] => match lsOf S d with
    | some xs => match intsOf xs with
      | some ns => if ns = [] then none else some (.int (leastI ns), S)
      | none => none
    | none => none
  | _ => none
def gMax : GA := fun ds S => match ds with
  | [.int i, .int j] => some (.int (if j > i then j else i), S)
  | [d] => match lsOf S d with
    | some xs => match intsOf xs with
      | some ns => if ns = [] then none else some (.int (mostI ns), S)
      | none => none
    | none => none
  | _ => none
def rMinA (K : PySem.W.Frag) : List V → Hp → VK → Prop := fun xs H Q => (∃ i j, xs = [.int i, .int j] ∧ Q (.int (if j < i then j else i)) H) ∨ rMin K xs H Q
def rMaxA (K : PySem.W.Frag) : List V → Hp → VK → Prop := fun xs H Q => (∃ i j, xs = [.int i, .int j] ∧ Q (.int (if j > i then j else i)) H) ∨ rMax K xs H Q
theorem call_minA {X : Cx} (hc : X.calm = true) : CallR X (.builtin "min") (rMinA X.K) := (call_min2 hc).or (cr_min hc)
theorem call_maxA {X : Cx} (hc : X.calm = true) : CallR X (.builtin "max") (rMaxA X.K) := (call_max2 hc).or (cr_max hc)
theorem ls_ints {W : Wd} {H : Hp} {S : So} {d : D} {v : V} {xs : List D} {ns : List Int} (s : SRel K W H S) (r : DRel K W H d v) (h : lsOf S d = some xs) (h2 : intsOf xs = some ns) : ∃ a, v = .ref a ∧ H a = some (.lst (ns.map V.int)) := by
  obtain ⟨a, vs, e, h1, h3⟩ := lsOf_rel s r h
  rw [intsOf_eq h2] at h3
  rw [DRels.ints_of h3] at h1
  exact ⟨a, e, h1⟩
theorem cd_min : CallD K (rMinA K) gMin := by
  intro W H S vs ds Q s r p
  unfold gMin at p
  split at p
  · obtain ⟨v, u, rfl, h1, h2⟩ := drels2 r
    unfold DRel at h1 h2; subst h1; subst h2
    exact .inl ⟨_, _, rfl, p.here s dint⟩
  · obtain ⟨v, rfl, h1⟩ := drels1 r
    split at p
    · split at p
      · rename_i ns h3
        obtain ⟨a, rfl, h4⟩ := ls_ints s h1 (by assumption) h3
        split at p
        · exact p.elim
        · rename_i hne
          refine .inr ⟨a, ns, rfl, .of h4, by cases ns with
            | nil => exact absurd rfl hne
            | cons _ _ => simp, fun m hm hle => ?_⟩
          have sp := leastI_spec hne
          have : m = leastI ns := Int.le_antisymm (hle _ sp.1) (sp.2 m hm)
          rw [this]
          exact p.here s dint
      · exact p.elim
    · exact p.elim
  · exact p.elim
theorem cd_max : CallD K (rMaxA K) gMax := by
  intro W H S vs ds Q s r p
  unfold gMax at p
  split at p
  · obtain ⟨v, u, rfl, h1, h2⟩ := drels2 r
    unfold DRel at h1 h2; subst h1; subst h2
    exact .inl ⟨_, _, rfl, p.here s dint⟩
  · obtain ⟨v, rfl, h1⟩ := drels1 r
    split at p
    · split at p
      · rename_i ns h3
        obtain ⟨a, rfl, h4⟩ := ls_ints s h1 (by assumption) h3
        split at p
        · exact p.elim
        · rename_i hne
          refine .inr ⟨a, ns, rfl, .of h4, by cases ns with
            | nil => exact absurd rfl hne
            | cons _ _ => simp, fun m hm hle => ?_⟩
          have sp := mostI_spec hne
          have : m = mostI ns := Int.le_antisymm (sp.2 m hm) (hle _ sp.1)
          rw [this]
          exact p.here s dint
      · exact p.elim
    · exact p.elim
  · exact p.elim
/-- sum -/
def gSum : GA := fun ds S => match ds with
  | [d] => match lsOf S d with
    | some xs => match intsOf xs with
      | some ns => some (.int ns.sum, S)
      | none => none
    | none => none
  | _ => none
theorem cd_sum : CallD K (rSum K) gSum := by
  intro W H S vs ds Q s r p
  unfold gSum at p
  split at p
  · obtain ⟨v, rfl, h1⟩ := drels1 r
    split at p
    · split at p
      · rename_i ns h3
        obtain ⟨a, rfl, h4⟩ := ls_ints s h1 (by assumption) h3
        exact ⟨a, ns, rfl, .of h4, p.here s dint⟩
      · exact p.elim
    · exact p.elim
  · exact p.elim
/-- sorted: of ints -/
def isort : List Int → List Int
  | [] => []
  | x :: xs => ins x (isort xs)
where ins (x : Int) : List Int → List Int
  | [] => [x]
  | y :: ys => if x ≤ y then x :: y :: ys else y :: ins x ys
theorem ins_perm (x : Int) : ∀ ys : List Int, (isort.ins x ys).Perm (x :: ys)
  | [] => .refl _
  | y :: ys => by
    unfold isort.ins
    split
    · exact .refl _
    · exact ((ins_perm x ys).cons y).trans (.swap x y ys)
theorem isort_perm : ∀ xs : List Int, (isort xs).Perm xs
  | [] => .refl _
  | x :: xs => (ins_perm x _).trans ((isort_perm xs).cons x)
theorem ins_sorted (x : Int) : ∀ {ys : List Int}, ys.Pairwise (· ≤ ·) → (isort.ins x ys).Pairwise (· ≤ ·)
  | [], _ => by unfold isort.ins; simp
  | y :: ys, h => by
    unfold isort.ins
    obtain ⟨h1, h2⟩ := List.pairwise_cons.mp h
    split
    · refine List.pairwise_cons.mpr ⟨fun z hz => ?_, h⟩
      rcases List.mem_cons.mp hz with rfl | hz
      · assumption
      · exact Int.le_trans (by assumption) (h1 z hz)
    · refine List.pairwise_cons.mpr ⟨fun z hz => ?_, ins_sorted x h2⟩
      rcases List.mem_cons.mp ((ins_perm x ys).mem_iff.mp hz) with rfl | hz
      · omega
      · exact h1 z hz
theorem isort_sorted : ∀ xs : List Int, (isort xs).Pairwise (· ≤ ·)
  | [] => .nil
  | x :: xs => ins_sorted x (isort_sorted xs)
theorem sorted_unique : ∀ {xs ys : List Int}, xs.Perm ys → xs.Pairwise (· ≤ ·) → ys.Pairwise (· ≤ ·) → xs = ys
  | [], ys, p, _, _ => p.symm.eq_nil.symm
  | x :: xs, [], p, _, _ => p.eq_nil
  | x :: xs, y :: ys, p, hx, hy => by
    obtain ⟨hx1, hx2⟩ := List.pairwise_cons.mp hx
    obtain ⟨hy1, hy2⟩ := List.pairwise_cons.mp hy
    have e : x = y := by
      have h1 : x ∈ y :: ys := p.mem_iff.mp List.mem_cons_self
      have h2 : y ∈ x :: xs := p.mem_iff.mpr List.mem_cons_self
      rcases List.mem_cons.mp h1 with h | h
      · exact h
      · rcases List.mem_cons.mp h2 with h' | h'
        · exact h'.symm
        · exact Int.le_antisymm (hx1 y h') (hy1 x h)
    subst e
    rw [sorted_unique (List.perm_cons x |>.mp p) hx2 hy2]
def gSorted (mu : Bool) : GA := fun ds S => match ds with
  | [d] => match lsOf S d with
    | some xs => match intsOf xs with
      | some ns => some (newL mu ((isort ns).map D.int) S)
      | none => none
    | none => none
  | _ => none
theorem cd_sorted (mu : Bool) : CallD K (rSortedI K) (gSorted mu) := by
  intro W H S vs ds Q s r p
  unfold gSorted at p
  split at p
  · obtain ⟨v, rfl, h1⟩ := drels1 r
    split at p
    · split at p
      · rename_i ns h3
        obtain ⟨a, rfl, h4⟩ := ls_ints s h1 (by assumption) h3
        refine ⟨a, ns, rfl, .of h4, fun ns' q hp' hs' hq => ?_⟩
        have : ns' = isort ns := sorted_unique (hp'.trans (isort_perm ns).symm) hs' (isort_sorted ns)
        subst this
        exact new_list mu s (DRels.ints _) p hq
      · exact p.elim
    · exact p.elim
  · exact p.elim
/-- list(x), tuple(x) -/
def gList (mu : Bool) : GA := fun ds S => match ds with
  | [d] => match sqOf S d with
    | some xs => some (newL mu xs S)
    | none => none
  | _ => none
theorem cd_list (mu : Bool) : CallD K (fun xs H Q => ∃ p ys, xs = [.ref p] ∧ (SqL K H p ys ∨ SqT K H p ys) ∧ ∀ l, H l = none → Q (.ref l) (upd H l (.lst ys))) (gList mu) := by
  intro W H S vs ds Q s r p
  unfold gList at p
  split at p
  · obtain ⟨v, rfl, h1⟩ := drels1 r
    split at p
    · obtain ⟨a, us, rfl, h2, h3⟩ := sqOf_rel s h1 (by assumption)
      exact ⟨a, us, rfl, h2, fun q hq => new_list mu s h3 p hq⟩
    · exact p.elim
  · exact p.elim
def gTuple : GA := fun ds S => match ds with
  | [d] => match sqOf S d with
    | some xs => some (.tup xs, S)
    | none => none
  | _ => none
theorem cd_tuple : CallD K (fun xs H Q => ∃ p ys, xs = [.ref p] ∧ ((SqL K H p ys ∧ ∀ l, H l = none → Q (.ref l) (upd H l (.tup ys))) ∨ (SqT K H p ys ∧ Q (.ref p) H))) gTuple := by
  intro W H S vs ds Q s r p
  unfold gTuple at p
  split at p
  · obtain ⟨v, rfl, h1⟩ := drels1 r
    split at p
    · obtain ⟨a, us, rfl, h2, h3⟩ := sqOf_rel s h1 (by assumption)
      refine ⟨a, us, rfl, ?_⟩
      rcases h2 with h2 | h2
      · exact .inl ⟨h2, fun q hq => new_tup s h3 p hq⟩
      · exact .inr ⟨h2, p.here s (drel_same h2 h3)⟩
    · exact p.elim
  · exact p.elim
end one
/-! ### isinstance of a built-in class -/
def tyN (S : So) : D → Option String
  | .non => some "NoneType"
  | .bl _ => some "bool"
  | .int _ => some "int"
  | .str _ => some "str"
  | .tup _ => some "tuple"
  | .lst _ => some "list"
  | .ref n => match S[n]? with
    | some (.lst _) => some "list"
    | some (.dic _) => some "dict"
    | _ => none
  | .scr _ => none
def fIsi (T : String) (f : FE) : FE := fun en S => (f en S).bind fun d S1 => match tyN S1 d with
  | some t => match kitB t T with
    | some b => .ok (.bl b) S1
    | none => .no
  | none => .no
theorem tyN_rel {K : PySem.W.Frag} {W : Wd} {H : Hp} {S : So} {d : D} {v : V} {t : String} (s : SRel K W H S) (r : DRel K W H d v) (h : tyN S d = some t) : TyX K H v (.type t) := by
  cases d with
  | non => unfold DRel at r; subst r; simp only [tyN] at h; cases h; exact .base .non
  | bl b => unfold DRel at r; subst r; simp only [tyN] at h; cases h; exact .base (.bl b)
  | int b => unfold DRel at r; subst r; simp only [tyN] at h; cases h; exact .base (.int b)
  | str b => unfold DRel at r; subst r; simp only [tyN] at h; cases h; exact .base (.str b)
  | tup ds =>
    unfold DRel at r; obtain ⟨a, vs, rfl, h1, _⟩ := r
    simp only [tyN] at h; cases h
    rcases h1 with (h1 | ⟨o, h1⟩) | ⟨o, its, n, h1, h2, _⟩
    · exact .base (.tup h1)
    · exact .fTuple h1
    · exact .kTuple h1 h2
  | lst ds =>
    unfold DRel at r; obtain ⟨a, vs, rfl, h1, _⟩ := r
    simp only [tyN] at h; cases h
    exact .base (.lst h1.2)
  | ref n =>
    unfold DRel at r; obtain ⟨a, rfl, h1⟩ := r
    simp only [tyN] at h
    split at h
    · rename_i hn
      cases h
      obtain ⟨vs, h2, _⟩ := s.obj n a _ h1 hn
      exact .base (.lst h2)
    · rename_i hn
      cases h
      obtain ⟨vs, h2, _⟩ := s.obj n a _ h1 hn
      exact .base (.dK h2)
    · cases h
  | scr n => simp only [tyN] at h; cases h
theorem pf_isi {X : Cx} {Wx : WX} {a : Expr} {fa : FE} {T : Str} {t : String} {p q pos : Pos} (ha : PFE X Wx a fa) (hg : Gl X "isinstance") (hm : X.mg "isinstance" = none) (hgT : Gl X T) (hmT : X.mg T = none) (hvT : bootBuiltins T = some (.type t) := by decide +kernel)
    (hn : T ≠ "__name__" := by decide) (hd : (T == ("__debug__" : Str)) = false := by decide)
    (he : starEach [a, .Name T q] X.env = (false, eval a X.env) :: starEach [.Name T q] X.env := by rfl) (he2 : starEach [.Name T q] X.env = (false, eval (.Name T q) X.env) :: starEach [] X.env := by rfl)
    (hpl : (backTo pos (starEach [.Name T q] X.env)).any (·.1) = false := by rfl) : PFE X Wx (.Call (.Name "isinstance" p) [a, .Name T q] [] pos) (fIsi t fa) := by
  refine ⟨fun W H σ en S Q he' hs hp => PE_w (pe_callB call_isi hg hm (by decide +kernel) (pa_cons pe_w (pa_cons (pe_bltn (v := .ty t) hgT hmT hvT rfl hn hd) pa_nil he2) he) (he := he) (hpl := hpl)) ?_⟩
  refine ha.run W H σ en S _ he' hs (Post.bind hp fun d S1 W1 H1 v e1 s1 r1 p1 => ?_)
  split at p1
  · split at p1
    · rename_i b hb
      exact ⟨v, .ty t, _, _, b, rfl, .ty t, tyN_rel s1 r1 (by assumption), kit_ty hb, p1.here s1 dbl⟩
    · exact p1.elim
  · exact p1.elim
/-! ### -x -/
def fNeg (f : FE) : FE := fun en S => (f en S).bind fun d S1 => match d with
  | .int i => .ok (.int (-i)) S1
  | _ => .no
theorem pf_neg {X : Cx} {Wx : WX} {a : Expr} {fa : FE} {pos : Pos} (ha : PFE X Wx a fa) : PFE X Wx (.UnaryOp .USub a pos) (fNeg fa) := by
  refine ⟨fun W H σ en S Q he hs hp => PE_w (pe_un un_neg pe_w) (ha.run W H σ en S _ he hs (Post.bind hp fun d S1 W1 H1 v e1 s1 r1 p1 => ?_))⟩
  cases d with
  | int i => unfold DRel at r1; exact ⟨i, r1, p1.here s1 dint⟩
  | _ => exact p1.elim
end PF

namespace PF
open PySem L2
variable [Tab]
/-! ### subscripts -/
def gIx : G2 := fun a b S => match a, b with
  | .str z, .int i => if z.length ≤ sizeLine then (match atI z.cps.toList i with
    | some c => some (.str ⟨#[c]⟩, S)
    | none => none) else none
  | a, .int i => match sqOf S a with
    | some xs => match atI xs i with
      | some d => some (d, S)
      | none => none
    | none => none
  | _, _ => none
section ix
variable {K : PySem.W.Frag}
theorem DRels.atI {W : Wd} {H : Hp} {ds : List D} {vs : List V} {i : Int} {d : D} (r : DRels K W H ds vs) (h : atI ds i = some d) : ∃ v, L2.atI vs i = some v ∧ DRel K W H d v := by
  unfold L2.atI at h ⊢
  rw [r.length] at h
  cases e : ixN vs.length i with
  | none => rw [e] at h; cases h
  | some j =>
    rw [e] at h
    obtain ⟨v, h1, h2⟩ := r.get (i := j) (d := d) h
    exact ⟨v, h1, h2⟩
theorem opd_ix : OpD K (rIx K) gIx := by
  intro W H S x y a b Q s ra rb p
  unfold gIx at p
  split at p
  · unfold DRel at ra rb
    split at p
    · split at p
      · exact .inr (.inr ⟨_, _, _, ra, rb, by assumption, by assumption, p.here s dstr⟩)
      · exact p.elim
    · exact p.elim
  · unfold DRel at rb
    split at p
    · split at p
      · obtain ⟨q, vs, e, h1, h2⟩ := sqOf_rel s ra (by assumption)
        obtain ⟨v, h3, h4⟩ := h2.atI (by assumption)
        rcases h1 with h1 | h1
        · exact .inl ⟨q, vs, _, v, e, rb, h1, h3, p.here s h4⟩
        · exact .inr (.inl ⟨q, vs, _, v, e, rb, h1, h3, p.here s h4⟩)
      · exact p.elim
    · exact p.elim
  · exact p.elim
theorem pf_ix {X : Cx} {Wx : WX} {a b : Expr} {fa fb : FE} {pos : Pos} (ha : PFE X Wx a fa) (hb : PFE X Wx b fb) (hs : PlainIx b := by intro _ _; rfl) : PFE X Wx (.Subscript a b pos) (fOp gIx fa fb) :=
  ⟨fun W H σ en S Q he hs' hp => PE_w (pe_ix ix_seq pe_w pe_w hs) (bind2 ha hb he hs' hp fun W2 H2 S2 x y d1 d2 _ s2 r1 r2 p => opd_ix W2 H2 S2 x y d1 d2 Q s2 r1 r2 p)⟩
/-! slices -/
abbrev FO := En → So → Rs (Option Int)
def EqO : PySem.W.Frag → Wd → Hp → Option Int → Option Int → Prop := fun _ _ _ a b => b = a
structure PFO (X : Cx) (Wx : WX) (e : Option Expr) (f : FO) : Prop where
  run : ∀ (W : Wd) (H : Hp) (σ : St) (en : En) (S : So) (Q : Option Int → Hp → Prop), ERel X.K W H en σ → SRel X.K W H S → Post X.K EqO W H (f en S) Q (Wish Wx σ) → wO X e σ H Q
def fNoPart : FO := fun _ S => .ok none S
def fPart (f : FE) : FO := fun en S => (f en S).bind fun d S1 => match d with
  | .int i => .ok (some i) S1
  | _ => .no
theorem pfo_none {X : Cx} {Wx : WX} : PFO X Wx none fNoPart := ⟨fun W H σ en S Q he hs hp => PO_w po_none (Post.here hp hs rfl)⟩
theorem pfo_some {X : Cx} {Wx : WX} {e : Expr} {f : FE} (h : PFE X Wx e f) : PFO X Wx (some e) (fPart f) := by
  refine ⟨fun W H σ en S Q he hs hp => PO_w (po_some pe_w) (h.run W H σ en S _ he hs (Post.bind hp fun d S1 W1 H1 v e1 s1 r1 p1 => ?_))⟩
  cases d with
  | int i => unfold DRel at r1; exact ⟨i, r1, p1.here s1 rfl⟩
  | _ => exact p1.elim
def cutD (xs : List D) (lo hi : Option Int) : List D := (xs.drop (HT.sIx xs.length 0 lo)).take (HT.sIx xs.length xs.length hi - HT.sIx xs.length 0 lo)
theorem cut_rel {W : Wd} {H : Hp} {ds : List D} {vs : List V} (lo hi : Option Int) (r : DRels K W H ds vs) : DRels K W H (cutD ds lo hi) (cutV vs lo hi) := by
  unfold cutD cutV
  rw [r.length]
  exact (r.drop _).take _
def gSl (mu : Bool) (a : D) (lo hi : Option Int) (S : So) : Option (D × So) := match a with
  | .str z => if z.length ≤ sizeLine then some (.str (cutS z lo hi), S) else none
  | .tup xs => some (.tup (cutD xs lo hi), S)
  | .scr ns => some (newL mu (cutD (ns.map D.int) lo hi) S)
  | a => match lsOf S a with
    | some xs => some (newL mu (cutD xs lo hi) S)
    | none => none
def rSlAll (K : PySem.W.Frag) : V → Option Int → Option Int → Hp → VK → Prop := fun x lo hi H Q => rSlL K x lo hi H Q ∨ rSlA K x lo hi H Q ∨ rSlS x lo hi H Q
theorem sl_all {X : Cx} : SlR X (rSlAll X.K) := sl_list.or (sl_tupA.or sl_str)
theorem sld {W : Wd} {H : Hp} {S : So} {x : V} {a : D} {lo hi : Option Int} {Q : VK} (mu : Bool) (s : SRel K W H S) (ra : DRel K W H a x) (p : PostO K W H (gSl mu a lo hi S) Q) : rSlAll K x lo hi H Q := by
  unfold gSl at p
  split at p
  · unfold DRel at ra
    split at p
    · exact .inr (.inr ⟨_, ra, by assumption, p.here s dstr⟩)
    · exact p.elim
  · rename_i xs
    unfold DRel at ra; obtain ⟨q, vs, e, h1, h2⟩ := ra
    refine .inr (.inl ⟨q, vs, e, h1, fun c => ?_, fun _ u hu => new_tup s (cut_rel lo hi h2) p hu⟩)
    refine p.here s ?_
    have : cutD xs lo hi = xs := by
      unfold cutD
      rw [h2.length, c.1, c.2]
      simp [← h2.length]
    rw [this]
    exact drel_same h1 h2
  · rename_i ns
    unfold DRel at ra; obtain ⟨q, e, h1⟩ := ra
    have hq : SqL K H q (ns.map V.int) := by
      rcases h1 with ⟨o, h1⟩ | h1 | h1
      · exact .inl (.inr ⟨o, h1⟩)
      · exact .inr h1
      · exact h1.sq
    exact .inl ⟨q, _, e, hq, fun u hu => new_list mu s (cut_rel lo hi (DRels.ints ns)) p hu⟩
  · split at p
    · obtain ⟨q, vs, e, h1, h2⟩ := lsOf_rel s ra (by assumption)
      exact .inl ⟨q, vs, e, .of h1, fun u hu => new_list mu s (cut_rel lo hi h2) p hu⟩
    · exact p.elim
def fSl (mu : Bool) (fa : FE) (fl fh : FO) : FE := fun en S => (fa en S).bind fun d S1 => (fl en S1).bind fun lo S2 => (fh en S2).bind fun hi S3 => ofO (gSl mu d lo hi S3)
theorem pf_sl (mu : Bool) {X : Cx} {Wx : WX} {a : Expr} {lo hi : Option Expr} {fa : FE} {fl fh : FO} {pos p2 : Pos} (ha : PFE X Wx a fa) (hl : PFO X Wx lo fl) (hh : PFO X Wx hi fh) : PFE X Wx (.Subscript a (.Slice lo hi none p2) pos) (fSl mu fa fl fh) := by
  refine ⟨fun W H σ en S Q he hs hp => PE_w (pe_slice sl_all pe_w po_w po_w) (ha.run W H σ en S _ he hs (Post.bind hp fun d S1 W1 H1 v e1 s1 r1 p1 => ?_))⟩
  refine hl.run W1 H1 σ en S1 _ (he.ext e1) s1 (Post.bind p1 fun l S2 W2 H2 l' e2 s2 r2 p2 => ?_)
  refine hh.run W2 H2 σ en S2 _ ((he.ext e1).ext e2) s2 (Post.bind p2 fun h S3 W3 H3 h' e3 s3 r3 p3 => ?_)
  cases r2; cases r3
  exact sld mu s3 (r1.ext (e2.trans e3)) (postO p3)
end ix
/-! ### methods of built-in types -/
abbrev GM := D → List D → So → Option (D × So)
def MtD (K : PySem.W.Frag) (r : V → List V → Hp → VK → Prop) (g : GM) : Prop := ∀ (W : Wd) (H : Hp) (S : So) (x : V) (vs : List V) (d : D) (ds : List D) (Q : VK), SRel K W H S → DRel K W H d x → DRels K W H ds vs → PostO K W H (g d ds S) Q → r x vs H Q
/-- of that built-in type -/
def isTy (S : So) (T : String) : D → Bool
  | .str _ => decide (T = "str")
  | .lst _ => decide (T = "list")
  | .ref n => match S[n]? with
    | some (.lst _) => decide (T = "list")
    | some (.dic _) => decide (T = "dict")
    | _ => false
  | _ => false
theorem isTy_rel {K : PySem.W.Frag} {W : Wd} {H : Hp} {S : So} {d : D} {v : V} {T : String} (s : SRel K W H S) (r : DRel K W H d v) (h : isTy S T d = true) : tyV K T v H := by
  cases d with
  | str x => unfold DRel at r; subst r; simp only [isTy, decide_eq_true_eq] at h; exact h
  | lst ds =>
    unfold DRel at r; obtain ⟨a, vs, rfl, h1, _⟩ := r
    simp only [isTy, decide_eq_true_eq] at h
    exact .inl ⟨h, vs, h1.sq⟩
  | ref n =>
    unfold DRel at r; obtain ⟨a, rfl, h1⟩ := r
    simp only [isTy] at h
    split at h
    · rename_i hn
      simp only [decide_eq_true_eq] at h
      obtain ⟨vs, h2, _⟩ := s.obj n a _ h1 hn
      exact .inl ⟨h, vs, .of h2⟩
    · rename_i hn
      simp only [decide_eq_true_eq] at h
      obtain ⟨vs, h2, _⟩ := s.obj n a _ h1 hn
      exact .inr (.inr (.inl ⟨h, .inl ⟨vs, h2⟩⟩))
    · cases h
  | _ => simp [isTy] at h
def fBM (T : String) (g : GM) (fo : FE) (fa : FA) : FE := fun en S => (fo en S).bind fun d S1 => if isTy S1 T d = true then (fa en S1).bind fun ds S2 => ofO (g d ds S2) else .no
section bm
variable {X : Cx} {Wx : WX} {o e : Expr} {es : List Expr} {fo : FE} {fa : FA} {name : Str} {apos cpos : Pos} {T id : String} {r : V → List V → Hp → VK → Prop} {g : GM}
theorem pf_bm (pa : PlainAttrs T) (slot : Slot T name id) (hty : typeOf (.builtin id) = pure (.type "method_descriptor")) (hm : MtR X id r) (hd : MtD X.K r g) (ho : PFE X Wx o fo) (ha : PFA X Wx (e :: es) fa)
    (hbase : attributeBase o name X.env (eval o X.env) = eval o X.env := by rfl)
    (hfew : ((backTo cpos (starEach (e :: es) X.env)).all (fun x => !x.1) && (backToKw cpos (keywordEach [] X.env)).all (fun x => x.1.isSome) && decide ((e :: es).length + ([] : List Keyword).length + (if ([] : List Keyword).isEmpty then 0 else 1) < 30)) = true := by rfl)
    (hline : (apos.endLine == cpos.line) = true := by rfl) (hs : starEach (e :: es) X.env = (false, eval e X.env) :: starEach es X.env := by rfl) (hplain : (backTo cpos (starEach es X.env)).any (·.1) = false := by rfl) : PFE X Wx (.Call (.Attribute o name apos) (e :: es) [] cpos) (fBM T g fo fa) := by
  refine ⟨fun W H σ en S Q he hs' hp => PE_w (pe_bm pa slot hty hm pe_w pa_w hbase hfew hline hs hplain) (ho.run W H σ en S _ he hs' (Post.bind hp fun d S1 W1 H1 v e1 s1 r1 p1 => ?_))⟩
  split at p1
  · rename_i hT
    refine ⟨isTy_rel s1 r1 hT, ha.run W1 H1 σ en S1 _ (he.ext e1) s1 (Post.bind p1 fun ds S2 W2 H2 vs e2 s2 r2 p2 => ?_)⟩
    exact hd W2 H2 S2 v vs d ds Q s2 (r1.ext e2) r2 (postO p2)
  · exact p1.elim
theorem pf_bm0 (pa : PlainAttrs T) (slot : Slot T name id) (hty : typeOf (.builtin id) = pure (.type "method_descriptor")) (hm : MtR X id r) (hd : MtD X.K r g) (ho : PFE X Wx o fo)
    (hbase : attributeBase o name X.env (eval o X.env) = eval o X.env := by rfl) (hline : (apos.endLine == cpos.line) = true := by rfl) : PFE X Wx (.Call (.Attribute o name apos) [] [] cpos) (fBM T g fo fNil) := by
  refine ⟨fun W H σ en S Q he hs hp => PE_w (pe_bm0 pa slot hty hm pe_w hbase hline) (ho.run W H σ en S _ he hs (Post.bind hp fun d S1 W1 H1 v e1 s1 r1 p1 => ?_))⟩
  split at p1
  · rename_i hT
    exact ⟨isTy_rel s1 r1 hT, hd W1 H1 S1 v [] d [] Q s1 r1 DRels.nil (postO p1)⟩
  · exact p1.elim
end bm
/-- a list of the store -/
def atL (S : So) : D → Option (Nat × List D)
  | .ref n => match S[n]? with
    | some (.lst ds) => some (n, ds)
    | _ => none
  | _ => none
section muta
variable {K : PySem.W.Frag}
theorem atL_rel {W : Wd} {H : Hp} {S : So} {d : D} {v : V} {n : Nat} {ds : List D} (s : SRel K W H S) (r : DRel K W H d v) (h : atL S d = some (n, ds)) : ∃ a vs, v = .ref a ∧ W.m[n]? = some a ∧ H a = some (.lst vs) ∧ DRels K W H ds vs := by
  cases d with
  | ref m =>
    simp only [atL] at h
    unfold DRel at r; obtain ⟨a, rfl, h1⟩ := r
    split at h
    · rename_i hn
      cases h
      obtain ⟨vs, h2, h3⟩ := s.obj _ a _ h1 hn
      exact ⟨a, vs, rfl, h1, h2, h3⟩
    · cases h
  | _ => simp only [atL] at h; cases h
theorem upd_list {W : Wd} {H : Hp} {S : So} {n : Nat} {a : Addr} {ds : List D} {vs : List V} {d : D} {v : V} {Q : VK} (s : SRel K W H S) (hn : W.m[n]? = some a) (r : DRels K W H ds vs) (rd : DRel K W H d v) (p : PostO K W H (some (d, S.set n (.lst ds))) Q) : Q v (upd H a (.lst vs)) :=
  p W _ v (ext_upd s hn) (s.upd hn trivial ⟨vs, upd_same, r.ext (ext_upd s hn)⟩) (rd.ext (ext_upd s hn))
def gAppend : GM := fun o ds S => match atL S o, ds with
  | some (n, xs), [y] => if xs.length < sizeLine then some (.non, S.set n (.lst (xs ++ [y]))) else none
  | _, _ => none
theorem md_append : MtD K rAppend gAppend := by
  intro W H S x vs d ds Q s rd rs p
  unfold gAppend at p
  split at p
  · obtain ⟨v, rfl, h1⟩ := drels1 rs
    obtain ⟨a, us, rfl, h2, h3, h4⟩ := atL_rel s rd (by assumption)
    split at p
    · exact ⟨a, us, v, rfl, rfl, h3, by rw [← h4.length]; assumption, upd_list s h2 (h4.append (DRels.cons h1 DRels.nil)) dnon p⟩
    · exact p.elim
  · exact p.elim
def gPop : GM := fun o ds S => match atL S o, ds with
  | some (n, xs), [] => match xs[xs.length - 1]? with
    | some y => some (y, S.set n (.lst xs.dropLast))
    | none => none
  | _, _ => none
theorem md_pop : MtD K rPop gPop := by
  intro W H S x vs d ds Q s rd rs p
  unfold gPop at p
  split at p
  · unfold DRels at rs; subst rs
    obtain ⟨a, us, rfl, h2, h3, h4⟩ := atL_rel s rd (by assumption)
    split at p
    · rename_i y hy
      obtain ⟨v, h5, h6⟩ := h4.get hy
      exact ⟨a, us, v, rfl, rfl, h3, by rw [← h4.length]; exact h5, upd_list s h2 h4.dropLast h6 p⟩
    · exact p.elim
  · exact p.elim
def gPopAt : GM := fun o ds S => match atL S o, ds with
  | some (n, xs), [.int i] => if -(2 ^ 63) ≤ i ∧ i < 2 ^ 63 then (match ixN xs.length i with
    | some j => match xs[j]? with
      | some y => some (y, S.set n (.lst (xs.eraseIdx j)))
      | none => none
    | none => none) else none
  | _, _ => none
theorem md_popAt : MtD K rPopAt gPopAt := by
  intro W H S x vs d ds Q s rd rs p
  unfold gPopAt at p
  split at p
  · obtain ⟨v, rfl, h1⟩ := drels1 rs
    unfold DRel at h1; subst h1
    obtain ⟨a, us, rfl, h2, h3, h4⟩ := atL_rel s rd (by assumption)
    split at p
    · rename_i hc
      split at p
      · rename_i j hj
        split at p
        · rename_i y hy
          obtain ⟨v, h5, h6⟩ := h4.get hy
          exact ⟨a, us, _, j, v, rfl, rfl, h3, hc.1, hc.2, by rw [← h4.length]; exact (ixN_seq hj).1, h5, upd_list s h2 (h4.eraseIdx j) h6 p⟩
        · exact p.elim
      · exact p.elim
    · exact p.elim
  · exact p.elim
def gExtend : GM := fun o ds S => match atL S o, ds with
  | some (n, xs), [e] => match lsOf S e with
    | some ys => if xs.length + ys.length ≤ sizeLine then some (.non, S.set n (.lst (xs ++ ys))) else none
    | none => none
  | _, _ => none
theorem md_extend : MtD K rExtend gExtend := by
  intro W H S x vs d ds Q s rd rs p
  unfold gExtend at p
  split at p
  · obtain ⟨v, rfl, h1⟩ := drels1 rs
    obtain ⟨a, us, rfl, h2, h3, h4⟩ := atL_rel s rd (by assumption)
    split at p
    · obtain ⟨b, zs, rfl, h5, h6⟩ := lsOf_rel s h1 (by assumption)
      split at p
      · exact ⟨a, b, us, zs, rfl, rfl, h3, h5, by rw [← h4.length, ← h6.length]; assumption, upd_list s h2 (h4.append h6) dnon p⟩
      · exact p.elim
    · exact p.elim
  · exact p.elim
/-! o[i] = v -/
def gSet (o i v : D) (S : So) : Option So := match atL S o, i with
  | some (n, xs), .int k => match ixN xs.length k with
    | some j => some (S.set n (.lst (xs.set j v)))
    | none => none
  | _, _ => none
def gtSub (fo fi : FE) : FG := fun d en S => match fo en S with
  | .ok o S1 => match fi en S1 with
    | .ok i S2 => match gSet o i d S2 with
      | some S3 => some (en, S3)
      | none => none
    | _ => none
  | _ => none
theorem pfg_sub {X : Cx} {Wx : WX} {o i : Expr} {fo fi : FE} {pos : Pos} (ho : PFE X Wx o fo) (hi : PFE X Wx i fi)
    (ha : ∀ v, assign (.Subscript o i pos) X.env v = (do
      let ov ← holding [v] (eval o X.env)
      let iv ← holding [v, ov] (eval i X.env)
      standAt pos
      holding [v, ov, iv] (setItem ov iv v)
      release [v, ov, iv] []) := by intro _; rfl) : PFG X (.Subscript o i pos) (gtSub fo fi) := by
  refine ⟨fun W H σ en S d v Q he hs r hp => PG_w (pg_sub pe_w pe_w set_list ha) ?_⟩
  unfold gtSub at hp
  split at hp
  · rename_i od S1 ho'
    refine ho.run W H σ en S _ he hs ?_
    rw [ho']
    intro W1 H1 x e1 s1 r1
    split at hp
    · rename_i idd S2 hi'
      refine hi.run W1 H1 σ en S1 _ (he.ext e1) s1 ?_
      rw [hi']
      intro W2 H2 y e2 s2 r2
      split at hp
      · rename_i S3 hS
        unfold gSet at hS
        split at hS
        · rename_i hL
          split at hS
          · rename_i j hj
            cases hS
            obtain ⟨a, us, rfl, h2, h3, h4⟩ := atL_rel s2 (r1.ext e2) hL
            unfold DRel at r2; subst r2
            have hp2 := PostG.later hp (e1.trans e2)
            have rv := r.ext (e1.trans e2)
            refine ⟨a, us, _, j, rfl, rfl, h3, by rw [← h4.length]; exact hj, ?_⟩
            exact hp2 W2 _ σ (ext_upd s2 h2) (s2.upd h2 trivial ⟨_, upd_same, (DRels.set rv j h4).ext (ext_upd s2 h2)⟩) (((he.ext e1).ext e2).ext (ext_upd s2 h2))
          · cases hS
        · cases hS
      · exact hp.elim
    · exact hp.elim
  · exact hp.elim
end muta
/-! ### what is walked -/
def iterOf (S : So) : D → Option ItD
  | .tup ds => some (.items ds)
  | .lst ds => some (.items ds)
  | .ref n => match S[n]? with
    | some (.lst _) => some (.live n)
    | _ => none
  | .str x => some (.items (x.cps.toList.map fun c => .str ⟨#[c]⟩))
  | _ => none
def ofI (o : Option ItD) (S : So) : Rs ItD := match o with
  | some t => .ok t S
  | none => .no
def fiSeq (f : FE) : FI := fun en S => (f en S).bind fun d S1 => ofI (iterOf S1 d) S1
section iters
variable {K : PySem.W.Frag} {W : Wd} {H : Hp}
theorem itr_list {a : Addr} {ds : List D} {vs : List V} (h : FzL W H a vs) (r : DRels K W H ds vs) : ItR K W H (.items ds) (Itl K a) := by
  intro W' H' S x s i
  have hl := h.ext x
  have r' := r.ext x
  simp only [ItD.at]
  cases e : ds[i]? with
  | none => exact ⟨vs, hl.sq, by rw [← r'.length]; exact List.getElem?_eq_none_iff.mp e⟩
  | some d =>
    obtain ⟨v, h1, h2⟩ := r'.get e
    refine ⟨⟨vs, v, hl.sq, h1⟩, fun y H'' hy => ?_⟩
    obtain ⟨rfl, hy⟩ := hy
    have := hy vs hl.sq
    rw [h1] at this
    cases this
    exact ⟨Ext.refl, s, h2⟩
theorem itr_tup {a : Addr} {ds : List D} {vs : List V} (h : SqT K H a vs) (r : DRels K W H ds vs) : ItR K W H (.items ds) (Itt K a) := by
  intro W' H' S x s i
  have hl := x.tup _ _ h
  have r' := r.ext x
  simp only [ItD.at]
  cases e : ds[i]? with
  | none => exact ⟨vs, hl, by rw [← r'.length]; exact List.getElem?_eq_none_iff.mp e⟩
  | some d =>
    obtain ⟨v, h1, h2⟩ := r'.get e
    refine ⟨⟨vs, v, hl, h1⟩, fun y H'' hy => ?_⟩
    obtain ⟨rfl, hy⟩ := hy
    have := hy vs hl
    rw [h1] at this
    cases this
    exact ⟨Ext.refl, s, h2⟩
theorem itr_live {a : Addr} {n : Nat} (h : W.m[n]? = some a) : ItR K W H (.live n) (Itl K a) := by
  intro W' H' S x s i
  simp only [ItD.at]
  cases c : S[n]? with
  | none => trivial
  | some o =>
    cases o with
    | lst ds =>
      simp only
      obtain ⟨vs, h1, r'⟩ := s.obj n a _ (x.m _ _ h) c
      cases e : ds[i]? with
      | none => exact ⟨vs, .of h1, by rw [← r'.length]; exact List.getElem?_eq_none_iff.mp e⟩
      | some d =>
        obtain ⟨v, h3, h2⟩ := r'.get e
        refine ⟨⟨vs, v, .of h1, h3⟩, fun y H'' hy => ?_⟩
        obtain ⟨rfl, hy⟩ := hy
        have := hy vs (.of h1)
        rw [h3] at this
        cases this
        exact ⟨Ext.refl, s, h2⟩
    | _ => trivial
theorem itr_str {x : Str} : ItR K W H (.items (x.cps.toList.map fun c => .str ⟨#[c]⟩)) (Its x) := by
  intro W' H' S e s i
  simp only [ItD.at, List.getElem?_map]
  cases c : x.cps.toList[i]? with
  | none =>
    simp only [Option.map_none]
    have := List.getElem?_eq_none_iff.mp c
    show x.cps.size ≤ i
    simpa using this
  | some d =>
    simp only [Option.map_some]
    have hc : x.cps[i]? = some d := by simpa using c
    have hl := (List.getElem?_eq_some_iff.mp c).1
    refine ⟨(show i < x.cps.size by simpa using hl), fun y H'' hy => ?_⟩
    obtain ⟨rfl, c', h1, rfl⟩ := hy
    rw [hc] at h1; cases h1
    exact ⟨Ext.refl, s, dstr⟩
/-- lo, lo + 1, .. -/
def rgD (lo : Int) (n : Nat) : List D := (List.range n).map fun (i : Nat) => D.int (lo + (i : Int))
theorem itr_range {lo : Int} {n : Nat} : ItR K W H (.items (rgD lo n)) (Itr lo n) := by
  intro W' H' S e s i
  simp only [ItD.at, rgD, List.getElem?_map]
  by_cases c : i < n
  · rw [List.getElem?_range c]
    refine ⟨c, fun y H'' hy => ?_⟩
    obtain ⟨rfl, rfl⟩ := hy
    exact ⟨Ext.refl, s, dint⟩
  · rw [List.getElem?_eq_none (by simpa using c)]
    exact Nat.le_of_not_lt c
def rgC (lo c : Int) (n : Nat) : List D := (List.range n).map fun (i : Nat) => D.int (lo + (i : Int) * c)
theorem itr_rangeC {lo c : Int} {n : Nat} : ItR K W H (.items (rgC lo c n)) (Itc lo c n) := by
  intro W' H' S e s i
  simp only [ItD.at, rgC, List.getElem?_map]
  by_cases q : i < n
  · rw [List.getElem?_range q]
    refine ⟨q, fun y H'' hy => ?_⟩
    obtain ⟨rfl, rfl⟩ := hy
    exact ⟨Ext.refl, s, dint⟩
  · rw [List.getElem?_eq_none (by simpa using q)]
    exact Nat.le_of_not_lt q
def enumD (k : Nat) : List D → List D
  | [] => []
  | d :: ds => .tup [.int (k : Int), d] :: enumD (k + 1) ds
theorem enumD_get : ∀ (ds : List D) (k i : Nat), (enumD k ds)[i]? = (ds[i]?).map fun d => .tup [.int ((k + i : Nat) : Int), d]
  | [], k, i => by simp [enumD]
  | d :: ds, k, 0 => by simp [enumD]
  | d :: ds, k, i + 1 => by
    simp only [enumD, List.getElem?_cons_succ, enumD_get ds (k + 1) i]
    rw [show k + 1 + i = k + (i + 1) by omega]
theorem itr_enum {a : Addr} {ds : List D} {vs : List V} (h : FzL W H a vs) (r : DRels K W H ds vs) : ItR K W H (.items (enumD 0 ds)) (Ite K a) := by
  intro W' H' S x s i
  have hl := h.ext x
  have r' := r.ext x
  simp only [ItD.at, enumD_get]
  cases e : ds[i]? with
  | none => exact ⟨vs, hl.sq, by rw [← r'.length]; exact List.getElem?_eq_none_iff.mp e⟩
  | some d =>
    obtain ⟨v, h1, h2⟩ := r'.get e
    refine ⟨⟨vs, v, hl.sq, h1⟩, fun y H'' hy => ?_⟩
    obtain ⟨T, x', rfl, hT, rfl, hy⟩ := hy
    have := hy vs hl.sq
    rw [h1] at this
    cases this
    refine ⟨ext_more s hT, s.more hT, ?_⟩
    have := drel_tup (K := K) (W := W') (ds := [.int ((0 + i : Nat) : Int), d]) s hT (DRels.cons (v := .int (i : Nat)) (by unfold DRel; simp) (DRels.cons h2 DRels.nil))
    exact this
end iters
section walked
variable {X : Cx} {Wx : WX} {tg l e a b c : Expr} {fe : FE} {fa : FA} {p pos tpos : Pos}
theorem pfi_seq (h : PFE X Wx l fe) : PFI X Wx tg l (fiSeq fe) := by
  refine ⟨fun W H σ en S Q he hs hp => ?_⟩
  unfold fiSeq at hp
  cases q : fe en S with
  | no => rw [q] at hp; exact hp.elim
  | ex C S1 => rw [q] at hp; exact PI_w (pi_list pe_w) (h.run W H σ en S _ he hs (by rw [q]; exact hp))
  | ok d S1 =>
    rw [q] at hp
    have go : ∀ {R : V → Hp → Prop}, (∀ W1 H1 v, Ext X.K W H W1 H1 → SRel X.K W1 H1 S1 → DRel X.K W1 H1 d v → Post X.K ItR W1 H1 (ofI (iterOf S1 d) S1) Q (Wish Wx σ) → R v H1) → wE X l σ H R := fun k =>
      h.run W H σ en S _ he hs (by rw [q]; exact fun W1 H1 v e1 s1 r1 => k W1 H1 v e1 s1 r1 (Post.later hp e1))
    cases d with
    | tup ds =>
      refine PI_w (pi_tup pe_w) (go fun W1 H1 v e1 s1 r1 p1 => ?_)
      unfold DRel at r1; obtain ⟨a, vs, rfl, h1, h2⟩ := r1
      exact ⟨a, rfl, ⟨vs, h1⟩, p1.here s1 (itr_tup h1 h2)⟩
    | lst ds =>
      refine PI_w (pi_list pe_w) (go fun W1 H1 v e1 s1 r1 p1 => ?_)
      unfold DRel at r1; obtain ⟨a, vs, rfl, h1, h2⟩ := r1
      exact ⟨a, rfl, ⟨vs, h1.sq⟩, p1.here s1 (itr_list h1 h2)⟩
    | ref n =>
      refine PI_w (pi_list pe_w) (go fun W1 H1 v e1 s1 r1 p1 => ?_)
      unfold DRel at r1; obtain ⟨a, rfl, h1⟩ := r1
      simp only [iterOf] at p1
      split at p1
      · rename_i ds hn
        obtain ⟨vs, h2, h3⟩ := s1.obj n a _ h1 hn
        exact ⟨a, rfl, ⟨vs, .of h2⟩, p1.here s1 (itr_live h1)⟩
      · exact p1.elim
    | str x =>
      refine PI_w (pi_str pe_w) (go fun W1 H1 v e1 s1 r1 p1 => ?_)
      unfold DRel at r1
      exact ⟨x, r1, p1.here s1 itr_str⟩
    | _ => exact hp.elim
/-- the ends of a range -/
def fiRng1 (fa : FA) : FI := fun en S => (fa en S).bind fun ds S1 => match ds with
  | [.int j] => if -(2 ^ 62) ≤ j ∧ j < 2 ^ 62 then .ok (.items (rgD 0 j.toNat)) S1 else .no
  | _ => .no
def fiRng2 (fa : FA) : FI := fun en S => (fa en S).bind fun ds S1 => match ds with
  | [.int i, .int j] => if -(2 ^ 62) ≤ i ∧ i < 2 ^ 62 ∧ -(2 ^ 62) ≤ j ∧ j < 2 ^ 62 then .ok (.items (rgD i (j - i).toNat)) S1 else .no
  | _ => .no
theorem pfi_range1 (hg : Gl X "range") (hm : X.mg "range" = none) (ha : PFA X Wx [a] fa) (hs : starEach [a] X.env = [(false, eval a X.env)] := by rfl) : PFI X Wx tg (.Call (.Name "range" p) [a] [] pos) (fiRng1 fa) := by
  refine ⟨fun W H σ en S Q he hs' hp => PI_w (pi_range1 hg hm pa_w hs) (ha.run W H σ en S _ he hs' (Post.bind hp fun ds S1 W1 H1 vs e1 s1 r1 p1 => ?_))⟩
  split at p1
  · obtain ⟨v, rfl, h1⟩ := drels1 r1
    unfold DRel at h1; subst h1
    split at p1
    · rename_i hc
      exact ⟨_, rfl, hc.1, hc.2, p1.here s1 itr_range⟩
    · exact p1.elim
  · exact p1.elim
theorem pfi_range2 (hg : Gl X "range") (hm : X.mg "range" = none) (ha : PFA X Wx [a, b] fa) (hs : starEach [a, b] X.env = [(false, eval a X.env), (false, eval b X.env)] := by rfl) (hs2 : starEach [b] X.env = [(false, eval b X.env)] := by rfl) : PFI X Wx tg (.Call (.Name "range" p) [a, b] [] pos) (fiRng2 fa) := by
  refine ⟨fun W H σ en S Q he hs' hp => PI_w (pi_range2 hg hm pa_w hs hs2) (ha.run W H σ en S _ he hs' (Post.bind hp fun ds S1 W1 H1 vs e1 s1 r1 p1 => ?_))⟩
  split at p1
  · obtain ⟨v, u, rfl, h1, h2⟩ := drels2 r1
    unfold DRel at h1 h2; subst h1; subst h2
    split at p1
    · rename_i hc
      exact ⟨_, _, rfl, hc, p1.here s1 itr_range⟩
    · exact p1.elim
  · exact p1.elim
/-- enumerate of a frozen list -/
def fiEnum (fa : FA) : FI := fun en S => (fa en S).bind fun ds S1 => match ds with
  | [.lst xs] => .ok (.items (enumD 0 xs)) S1
  | _ => .no
theorem pfi_enum {elts : List Expr} {kk : Nat} (hg : Gl X "enumerate") (hm : X.mg "enumerate" = none) (ha : PFA X Wx [a] fa) (hs : starEach [a] X.env = [(false, eval a X.env)] := by rfl) : PFI X Wx (.Tuple elts kk tpos) (.Call (.Name "enumerate" p) [a] [] pos) (fiEnum fa) := by
  refine ⟨fun W H σ en S Q he hs' hp => PI_w (pi_enum hg hm pa_w hs) (ha.run W H σ en S _ he hs' (Post.bind hp fun ds S1 W1 H1 vs e1 s1 r1 p1 => ?_))⟩
  split at p1
  · obtain ⟨v, rfl, h1⟩ := drels1 r1
    unfold DRel at h1; obtain ⟨q, us, rfl, h1, h2⟩ := h1
    exact ⟨q, us, rfl, h1.sq, p1.here s1 (itr_enum h1 h2)⟩
  · exact p1.elim
end walked
end PF

namespace PF
open PySem L2
variable [Tab]
/-! ### list comprehensions -/
/-- the turns over fixed items -/
def lcL (g : FG) (c : FT) (f : FE) (en : En) : List D → List D → So → Rs (List D)
  | [], acc, S => .ok acc S
  | d :: ds, acc, S => match g d en S with
    | none => .no
    | some (e1, S1) => (c e1 S1).bind fun k S2 => if k = true then (f e1 S2).bind fun y S3 => if acc.length < sizeLine then lcL g c f en ds (acc ++ [y]) S3 else .no else lcL g c f en ds acc S2
def lcR (g : FG) (c : FT) (f : FE) (en : En) (n : Nat) : Nat → Nat → List D → So → Rs (List D)
  | 0, _, _, _ => .no
  | m + 1, i, acc, S => match S[n]? with
    | some (.lst ds) => match ds[i]? with
      | none => .ok acc S
      | some d => match g d en S with
        | none => .no
        | some (e1, S1) => (c e1 S1).bind fun k S2 => if k = true then (f e1 S2).bind fun y S3 => if acc.length < sizeLine then lcR g c f en n m (i + 1) (acc ++ [y]) S3 else .no else lcR g c f en n m (i + 1) acc S2
    | _ => .no
def wipeD (en : En) : List Nat → En
  | [] => en
  | v :: vs => (wipeD en vs).set v none
theorem wipe_rel {K : PySem.W.Frag} {W : Wd} {H : Hp} {en : En} {σ : St} (h : ERel K W H en σ) : ∀ vs : List Nat, ERel K W H (wipeD en vs) (wipe σ vs)
  | [] => h
  | v :: vs => (wipe_rel h vs).clear
/-- nothing is raised in a comprehension's turns -/
def noX (r : Rs (List D)) : Rs (List D) := match r with
  | .ok a S => .ok a S
  | _ => .no
def lcT (m : Nat) (g : FG) (c : FT) (f : FE) (en : En) (t : ItD) (S : So) : Rs (List D) := match t with
  | .items ds => lcL g c f en ds [] S
  | .live n => lcR g c f en n m 0 [] S
def fLc (m : Nat) (mu : Bool) (vs : List Nat) (fi : FI) (g : FG) (c : FT) (f : FE) : FE := fun en S => (fi en S).bind fun t S1 => (noX (lcT m g c f (wipeD en vs) t S1)).bind fun ds S2 => ofO (some (newL mu ds S2))
/-- a target that writes the names at vs alone -/
structure OwnG (K : PySem.W.Frag) (t : TG) (vs : List Nat) (g : FG) : Prop where
  keep : ∀ d en S e1 S1, g d en S = some (e1, S1) → S1 = S
  run : ∀ (W : Wd) (H : Hp) (σ : St) (en : En) (S : So) (d : D) (v : V) (e1 : En) (S1 : So) (Q : St → Hp → Prop), ERel K W H en σ → DRel K W H d v → g d en S = some (e1, S1) →
    (∀ σ2, wipe σ2 vs = wipe σ vs → ERel K W H e1 σ2 → Q σ2 H) → t v σ H Q
abbrev F0 : WX := fun _ _ _ _ => False
def Wd.res (W : Wd) (p : Addr) : Wd := ⟨W.m, W.fz, fun a => W.rs a ∨ a = p⟩
def Wd.unr (W : Wd) (p : Addr) : Wd := ⟨W.m, W.fz, fun a => W.rs a ∧ a ≠ p⟩
section res
variable {K : PySem.W.Frag} {W W' : Wd} {H : Hp} {S : So} {p : Addr}
theorem ext0_res {H' : Hp} (hH : H' = H) (hm : W'.m = W.m) (hf : W'.fz = W.fz) : Ext0 K W H W' H' := by
  subst hH
  exact ⟨fun n a h => by rw [hm]; exact h, fun a h => by rw [hf]; exact h, fun _ _ h => h, fun _ _ _ h => h, fun _ _ _ h => h⟩
theorem SRel.res {vs : List V} (s : SRel K W H S) (hp : H p = some (.lst vs)) (hm : p ∉ W.m) (hf : ¬ W.fz p) : SRel K (W.res p) H S where
  tab := s.tab
  len := s.len
  inj := s.inj
  dom := s.dom
  fzd := s.fzd
  dis := s.dis
  rsd := fun a h => by
    rcases h with h | rfl
    · exact s.rsd a h
    · exact ⟨⟨_, hp, (fun ps q => by cases q), (fun f q => by cases q)⟩, hm, hf⟩
  obj := fun n a ob h h' => (s.obj n a ob h h').ext (ext0_res (W := W) (W' := W.res p) rfl rfl rfl) rfl
theorem SRel.ofres (s : SRel K (W.res p) H S) : SRel K W H S :=
  ⟨s.tab, s.len, s.inj, s.dom, s.fzd, s.dis, fun a z => s.rsd a (.inl z), fun n a ob z z' => (s.obj n a ob z z').ext (ext0_res (W := W.res p) (W' := W) rfl rfl rfl) rfl⟩
theorem ext_res : Ext K W H (W.res p) H := ⟨ext0_res rfl rfl rfl, fun a h => ⟨.inl h, rfl⟩⟩
theorem SRel.unr (s : SRel K W H S) : SRel K (W.unr p) H S :=
  ⟨s.tab, s.len, s.inj, s.dom, s.fzd, s.dis, fun a z => s.rsd a z.1, fun n a ob z z' => (s.obj n a ob z z').ext (ext0_res (W := W) (W' := W.unr p) rfl rfl rfl) rfl⟩
/-- a list outside of the world changes -/
theorem ext0_out {vs : List V} {o : HO} (hp : H p = some (.lst vs)) (hf : ¬ W.fz p) (hm : W'.m = W.m) (hz : W'.fz = W.fz) : Ext0 K W H W' (upd H p o) where
  m := fun n a h => by rw [hm]; exact h
  fz := fun a h => by rw [hz]; exact h
  tup := fun a us h => by
    rcases h with (h | ⟨u, h⟩) | h
    · exact .inl (.inl (by rw [upd_ne (by rintro rfl; rw [h] at hp; cases hp)]; exact h))
    · exact .inl (.inr ⟨u, by rw [upd_ne (by rintro rfl; rw [h] at hp; cases hp)]; exact h⟩)
    · exact .inr h
  lst := fun a us f h => by rw [upd_ne (by rintro rfl; exact hf f)]; exact h
  scr := fun a u us h => by rw [upd_ne (by rintro rfl; rw [h] at hp; cases hp)]; exact h
theorem SRel.out {vs : List V} {o : HO} (s : SRel K W H S) (hp : H p = some (.lst vs)) (hm : p ∉ W.m) (hf : ¬ W.fz p) : SRel K (W.unr p) (L2.upd H p o) S where
  tab := tabs_upd s.tab ⟨_, hp, (fun ps q => by cases q), (fun f q => by cases q)⟩
  len := s.len
  inj := s.inj
  dom := fun n a h => by rw [upd_ne (by rintro rfl; exact hm (List.mem_of_getElem? h))]; exact s.dom n a h
  fzd := fun a h => by rw [upd_ne (by rintro rfl; exact hf h)]; exact s.fzd a h
  dis := s.dis
  rsd := fun a h => by rw [upd_ne h.2]; exact s.rsd a h.1
  obj := fun n a ob h h' => (s.obj n a ob h h').ext (ext0_out (W' := W.unr p) hp hf rfl rfl) (upd_ne (by rintro rfl; exact hm (List.mem_of_getElem? h)))
/-- a list outside of the world comes into it -/
theorem come_in {vs : List V} {ds : List D} {Q : VK} (mu : Bool) (s : SRel K W H S) (hp : H p = some (.lst vs)) (hm : p ∉ W.m) (hf : ¬ W.fz p) (hr : ¬ W.rs p) (r : DRels K W H ds vs) (h : PostO K W H (some (newL mu ds S)) Q) : Q (.ref p) H := by
  cases mu with
  | true =>
    have x : Ext0 K W H (W.add p) H := ⟨fun n a q => by
      show (W.m ++ [p])[n]? = _
      rw [List.getElem?_append_left (List.getElem?_eq_some_iff.mp q).1]; exact q, fun _ q => q, fun _ _ q => q, fun _ _ _ q => q, fun _ _ _ q => q⟩
    refine h (W.add p) H (.ref p) ⟨x, fun a q => ⟨q, rfl⟩⟩ ?_ (drel_add s)
    have at' : ∀ (n : Nat) (a : Addr), (W.m ++ [p])[n]? = some a → (n < W.m.length ∧ W.m[n]? = some a) ∨ (n = W.m.length ∧ a = p) := fun n a q => by
      by_cases c : n < W.m.length
      · rw [List.getElem?_append_left c] at q; exact .inl ⟨c, q⟩
      · rw [List.getElem?_append_right (by omega)] at q
        cases e : n - W.m.length with
        | zero => rw [e] at q; exact .inr ⟨by omega, by simpa using q.symm⟩
        | succ k => rw [e] at q; simp at q
    refine ⟨s.tab, by show (W.m ++ [p]).length = _; simp [s.len], ?_, ?_, s.fzd, ?_, ?_, ?_⟩
    · show (W.m ++ [p]).Nodup
      rw [List.nodup_append]
      refine ⟨s.inj, by simp, fun a ha b hb => ?_⟩
      have hb' : b = p := by simpa using hb
      rw [hb']; rintro rfl; exact hm ha
    · intro n a q
      rcases at' n a q with ⟨_, q⟩ | ⟨_, rfl⟩
      · exact s.dom n a q
      · rw [hp]; trivial
    · intro n a q f
      rcases at' n a q with ⟨_, q⟩ | ⟨_, rfl⟩
      · exact s.dis n a q f
      · exact hf f
    · intro a q
      refine ⟨(s.rsd a q).1, fun z => ?_, (s.rsd a q).2.2⟩
      rcases List.mem_append.mp (show a ∈ W.m ++ [p] from z) with z | z
      · exact (s.rsd a q).2.1 z
      · have : a = p := by simpa using z
        subst this; exact hr q
    · intro n a ob q q'
      rcases at' n a q with ⟨c, q⟩ | ⟨e, rfl⟩
      · rw [List.getElem?_append_left (by rw [← s.len]; exact c)] at q'
        exact (s.obj n a ob q q').ext x rfl
      · subst e
        rw [s.len, List.getElem?_append_right (Nat.le_refl _)] at q'
        simp at q'; subst q'
        exact ⟨vs, hp, r.ext0 x⟩
  | false =>
    have x : Ext0 K W H (W.frz p) H := ⟨fun _ _ q => q, fun _ q => .inl q, fun _ _ q => q, fun _ _ _ q => q, fun _ _ _ q => q⟩
    refine h (W.frz p) H (.ref p) ⟨x, fun a q => ⟨q, rfl⟩⟩ ?_ ?_
    · refine ⟨s.tab, s.len, s.inj, s.dom, fun a q => q.elim (s.fzd a) (by rintro rfl; exact ⟨_, hp, (fun ps q => by cases q), (fun f q => by cases q)⟩), fun n a q f => ?_, fun a q => ⟨(s.rsd a q).1, (s.rsd a q).2.1, fun f => ?_⟩, fun n a ob q q' => (s.obj n a ob q q').ext x rfl⟩
      · rcases f with f | rfl
        · exact s.dis n a q f
        · exact hm (List.mem_of_getElem? q)
      · rcases f with f | rfl
        · exact (s.rsd a q).2.2 f
        · exact hr q
    · unfold DRel
      exact ⟨p, vs, rfl, ⟨.inr rfl, hp⟩, r.ext0 x⟩
end res
section comp
variable {X : Cx} {Wx : WX} {elt tg iter : Expr} {ifs : List Expr} {scope : Scope} {own : List (Str × Nat)} {pos : Pos} {fi : FI} {g : FG} {c : FT} {f : FE} {t : TG}
/-- the ifs of a clause -/
structure PFTs (X : Cx) (ifs : List Expr) (c : FT) : Prop where
  run : ∀ (W : Wd) (H : Hp) (σ : St) (en : En) (S : So) (Q : Bool → Hp → Prop), ERel X.K W H en σ → SRel X.K W H S → Post X.K EqB W H (c en S) Q (Wish F0 σ) →
    ∀ (pins : List (Addr × Obj)) (s : Shared), Inv X pins σ H s → wpAny (model X.prog X.w) X.A (forIn ifs true fun c r => if r = true then do let ok ← isTrue c X.env (eval c X.env); pure (ForInStep.yield ok) else pure (ForInStep.yield r)) (TP X pins σ Q) X.xe s
def fYes : FT := fun _ S => .ok true S
theorem pfts_nil : PFTs X [] fYes := ⟨fun W H σ en S Q he hs hp pins s I => pts_nil.run pins s σ H Q I (Post.here hp hs rfl)⟩
theorem pfts_one {e : Expr} {c : FT} (h : PFT X F0 e c) : PFTs X [e] c := ⟨fun W H σ en S Q he hs hp pins s I => (pts_one pt_w).run pins s σ H Q I (h.run W H σ en S Q he hs hp)⟩
/-- the readings of a turn's parts, the same whatever the block's context is -/
def tyE (K : PySem.W.Frag) (f : FE) : TE := fun σ H Q => ∃ W en S, ERel K W H en σ ∧ SRel K W H S ∧ Post K DRel W H (f en S) Q (Wish F0 σ)
def tyT (K : PySem.W.Frag) (f : FT) : TT := fun σ H Q => ∃ W en S, ERel K W H en σ ∧ SRel K W H S ∧ Post K EqB W H (f en S) Q (Wish F0 σ)
theorem pe_ty {X : Cx} {e : Expr} (h : PFE X F0 e f) : PE X e (tyE X.K f) := ⟨fun pins s σ H Q I ⟨W, en, S, he, hs, hp⟩ => h.run W H σ en S Q he hs hp pins s I⟩
theorem pts_ty {X : Cx} {ifs : List Expr} (h : PFTs X ifs c) : PTs X ifs (tyT X.K c) := ⟨fun pins s σ H Q I ⟨W, en, S, he, hs, hp⟩ => h.run W H σ en S Q he hs hp pins s I⟩
/-- one turn -/
theorem lc_turn {K : PySem.W.Frag} {W : Wd} {H : Hp} {σ2 : St} {en1 : En} {S1 SF : So} {p : Addr} {us : List V} {acc accF : List D} {kont : List D → So → Rs (List D)} {Nx : Hp → Prop}
    (he : ERel K W H en1 σ2) (hs : SRel K W H S1) (hp : H p = some (.lst us)) (hm : p ∉ W.m) (hf : ¬ W.fz p) (hr : ¬ W.rs p) (ra : DRels K W H acc us)
    (h : ((c en1 S1).bind fun k S2 => if k = true then (f en1 S2).bind fun y S3 => if acc.length < sizeLine then kont (acc ++ [y]) S3 else .no else kont acc S2) = .ok accF SF)
    (nx : ∀ acc' us' W' H' S', Ext K W H W' H' → H' p = some (.lst us') → p ∉ W'.m → ¬ W'.fz p → ¬ W'.rs p → SRel K W' H' S' → DRels K W' H' acc' us' → kont acc' S' = .ok accF SF → Nx H') :
    tyT K c σ2 H fun b H3 => if b = true then tyE K f σ2 H3 fun y H4 => ∃ ac, H4 p = some (.lst ac) ∧ ac.length < sizeLine ∧ Nx (upd H4 p (.lst (ac ++ [y]))) else Nx H3 := by
  have hsr := hs.res hp hm hf
  have xr : Ext0 K W H (W.res p) H := ext0_res rfl rfl rfl
  -- from the world with p reserved back to one without
  have back : ∀ {W1 : Wd} {H1 : Hp} {S' : So}, Ext K (W.res p) H W1 H1 → SRel K W1 H1 S' → H1 p = some (.lst us) ∧ p ∉ W1.m ∧ ¬ W1.fz p ∧ Ext K W H (W1.unr p) H1 := fun {W1 H1 S'} e s => by
    obtain ⟨h1, h2⟩ := e.rs p (.inr rfl)
    refine ⟨by rw [h2]; exact hp, (s.rsd p h1).2.1, (s.rsd p h1).2.2, ⟨⟨e.m, e.fz, e.tup, e.lst, e.scr⟩, fun a q => ?_⟩⟩
    obtain ⟨q1, q2⟩ := e.rs a (.inl q)
    exact ⟨⟨q1, by rintro rfl; exact hr q⟩, q2⟩
  refine ⟨W.res p, en1, S1, he.ext0 xr, hsr, ?_⟩
  cases q : c en1 S1 with
  | no => rw [q] at h; cases h
  | ex C S2 => rw [q] at h; cases h
  | ok k S2 =>
    rw [q] at h
    intro W1 H1 b e1 s1 r1
    cases r1
    obtain ⟨p1, m1, f1, x1⟩ := back e1 s1
    cases k with
    | false => exact iteF (nx acc us (W1.unr p) H1 S2 x1 p1 m1 f1 (fun z => z.2 rfl) s1.unr (ra.ext x1) h)
    | true =>
      refine iteT ⟨W1, en1, S2, (he.ext0 xr).ext e1, s1, ?_⟩
      simp only [Rs.bind, if_true] at h
      cases q2 : f en1 S2 with
      | no => rw [q2] at h; cases h
      | ex C S3 => rw [q2] at h; cases h
      | ok y S3 =>
        rw [q2] at h
        intro W2 H2 v e2 s2 r2
        obtain ⟨p2, m2, f2, x2⟩ := back (e1.trans e2) s2
        simp only [Rs.bind] at h
        split at h
        · rename_i hl
          refine ⟨us, p2, by rw [← ra.length]; exact hl, ?_⟩
          have x3 : Ext K W H (W2.unr p) (upd H2 p (.lst (us ++ [v]))) := ⟨x2.toExt0.trans (ext0_out (W' := W2.unr p) (W := W2.unr p) p2 f2 rfl rfl), fun a z => ⟨(x2.rs a z).1, (upd_ne (x2.rs a z).1.2).trans (x2.rs a z).2⟩⟩
          refine nx (acc ++ [y]) (us ++ [v]) (W2.unr p) _ S3 x3 upd_same m2 f2 (fun z => z.2 rfl) (s2.out p2 m2 f2) ?_ h
          exact (ra.ext x3).append (DRels.cons (r2.ext0 (ext0_out (W' := W2.unr p) p2 f2 rfl rfl)) DRels.nil)
        · cases h
/-- the comprehension's reading -/
theorem lc_run (m : Nat) (mu : Bool) {vs : List Nat} (hg : OwnG X.K t vs g) (hw : ∀ σ : St, wipe (wipe σ vs) vs = wipe σ vs)
    (hi : PFI X Wx tg iter fi) {W : Wd} {H : Hp} {σ : St} {en : En} {S : So} {Q : VK} (he : ERel X.K W H en σ) (hs : SRel X.K W H S) (hp : Post X.K DRel W H (fLc m mu vs fi g c f en S) Q (Wish Wx σ)) :
    tLc (wI X tg iter) t (tyT X.K c) (tyE X.K f) vs σ H Q := by
  refine hi.run W H σ en S _ he hs (Post.bind hp fun it S1 W1 H1 J e1 s1 r1 p1 => ?_)
  intro p hp0
  have hn1 : p ∉ W1.m := fun z => by
    obtain ⟨n, hn⟩ := List.getElem?_of_mem z
    exact s1.ne hp0 hn rfl
  have hz1 : ¬ W1.fz p := fun z => s1.fzne hp0 z rfl
  have hr1 : ¬ W1.rs p := fun z => s1.rsne hp0 z rfl
  have fin : ∀ {W2 : Wd} {H2 : Hp} {S2 : So} {acc : List D} {us : List V}, Ext X.K W1 H1 W2 H2 → H2 p = some (.lst us) → p ∉ W2.m → ¬ W2.fz p → ¬ W2.rs p → SRel X.K W2 H2 S2 → DRels X.K W2 H2 acc us →
      Post X.K DRel W1 H1 (ofO (some (newL mu acc S2))) Q (Wish Wx σ) → Q (.ref p) H2 := fun x a1 a2 a3 a4 a5 a6 a7 => come_in mu a5 a1 a2 a3 a4 a6 (postO (Post.later a7 x))
  have item : ∀ {W2 : Wd} {H2 H3 : Hp} {S2 : So} {us : List V} {acc : List D} {d : D} {x : V} {e4 : En} {Q' : St → Hp → Prop}, Ext X.K W1 H1 W2 H2 → H2 p = some (.lst us) → p ∉ W2.m → ¬ W2.fz p → ¬ W2.rs p → Ext X.K (W2.res p) H2 (W2.res p) H3 → SRel X.K (W2.res p) H3 S2 → DRel X.K (W2.res p) H3 d x →
      DRels X.K W2 H2 acc us → g d (wipeD en vs) S2 = some (e4, S2) → (∀ σ2, wipe σ2 vs = wipe σ vs → ERel X.K W2 H3 e4 σ2 → Ext X.K W2 H2 W2 H3 → Q' σ2 H3) → t x (wipe σ vs) H3 Q' := by
    intro W2 H2 H3 S2 us acc d x e4 Q' x2 a1 a2 a3 a4 x3 s3 r3 ra q k
    have x3' : Ext X.K W2 H2 W2 H3 := ⟨⟨x3.m, x3.fz, x3.tup, x3.lst, x3.scr⟩, fun a z => ⟨z, (x3.rs a (.inl z)).2⟩⟩
    refine hg.run W2 H3 (wipe σ vs) (wipeD en vs) S2 d x e4 S2 Q' (wipe_rel (((he.ext e1).ext x2).ext x3') vs) (r3.ext0 (ext0_res (W := W2.res p) (W' := W2) rfl rfl rfl)) q fun σ2 h1 h2 => k σ2 (h1.trans (hw σ)) h2 x3'
  cases it with
  | items ds =>
    -- the rest's result is the whole's
    have tot : ∃ accF SF, lcL g c f (wipeD en vs) ds [] S1 = .ok accF SF ∧ Post X.K DRel W1 H1 (ofO (some (newL mu accF SF))) Q (Wish Wx σ) := by
      simp only [lcT] at p1
      cases q : lcL g c f (wipeD en vs) ds [] S1 with
      | ok a b => rw [q] at p1; exact ⟨a, b, rfl, p1⟩
      | ex a b => rw [q] at p1; exact p1.elim
      | no => rw [q] at p1; exact p1.elim
    obtain ⟨accF, SF, hF, pF⟩ := tot
    refine ⟨fun i k H2 => ∃ W2 S2 us acc, k = ds.length - i ∧ i ≤ ds.length ∧ Ext X.K W1 H1 W2 H2 ∧ H2 p = some (.lst us) ∧ p ∉ W2.m ∧ ¬ W2.fz p ∧ ¬ W2.rs p ∧ SRel X.K W2 H2 S2 ∧ DRels X.K W2 H2 acc us ∧ lcL g c f (wipeD en vs) (ds.drop i) acc S2 = .ok accF SF, ⟨_, W1, S1, [], [], rfl, Nat.zero_le _, ext_more s1 hp0, upd_same, hn1, hz1, hr1, s1.more hp0, DRels.nil, hF⟩, ?_⟩
    rintro i k H2 ⟨W2, S2, us, acc, hk, hi', x2, a1, a2, a3, a4, s2, ra, hL⟩
    have hr := r1 (W2.res p) H2 S2 (x2.trans ext_res) (s2.res a1 a2 a3) i
    by_cases cc : i < ds.length
    · rw [List.drop_eq_getElem_cons cc] at hL
      have ed : ItD.at S2 i (.items ds) = some (some ds[i]) := by simp only [ItD.at, List.getElem?_eq_getElem cc]
      rw [ed] at hr
      obtain ⟨hgo, hy⟩ := hr
      refine .inr ⟨hgo, fun H' => ∃ W2 S2 us acc, Ext X.K W1 H1 W2 H' ∧ H' p = some (.lst us) ∧ p ∉ W2.m ∧ ¬ W2.fz p ∧ ¬ W2.rs p ∧ SRel X.K W2 H' S2 ∧ DRels X.K W2 H' acc us ∧ lcL g c f (wipeD en vs) (ds.drop (i + 1)) acc S2 = .ok accF SF, ?_, ?_⟩
      · rintro H' ⟨W3, S3, us3, acc3, q⟩
        exact ⟨ds.length - (i + 1), by omega, W3, S3, us3, acc3, rfl, cc, q⟩
      · intro x H3 hx
        obtain ⟨x3, s3, r3⟩ := hy x H3 hx
        unfold lcL at hL
        cases q : g ds[i] (wipeD en vs) S2 with
        | none => rw [q] at hL; cases hL
        | some pr =>
          obtain ⟨e4, S4⟩ := pr
          have es := hg.keep _ _ _ _ _ q
          subst es
          rw [q] at hL
          refine item x2 a1 a2 a3 a4 x3 s3 r3 ra q fun σ2 hw2 he2 x3' => ?_
          refine ⟨hw2, lc_turn (K := X.K) (kont := fun a s => lcL g c f (wipeD en vs) (ds.drop (i + 1)) a s) he2 s3.ofres (((x3.rs p (.inr rfl)).2).trans a1) a2 a3 a4 (ra.ext x3') hL fun acc' us' W' H' S' y1 y2 y3 y4 y5 y6 y7 y8 => ⟨W', S', us', acc', (x2.trans x3').trans y1, y2, y3, y4, y5, y6, y7, y8⟩⟩
    · have ei : i = ds.length := by omega
      subst ei
      have ed : ItD.at S2 ds.length (.items ds) = some none := by simp only [ItD.at, List.getElem?_eq_none (Nat.le_refl _)]
      rw [ed] at hr
      rw [List.drop_length] at hL
      simp only [lcL] at hL
      cases hL
      exact .inl ⟨hr, fin x2 a1 a2 a3 a4 s2 ra pF⟩
  | live n =>
    have tot : ∃ accF SF, lcR g c f (wipeD en vs) n m 0 [] S1 = .ok accF SF ∧ Post X.K DRel W1 H1 (ofO (some (newL mu accF SF))) Q (Wish Wx σ) := by
      simp only [lcT] at p1
      cases q : lcR g c f (wipeD en vs) n m 0 [] S1 with
      | ok a b => rw [q] at p1; exact ⟨a, b, rfl, p1⟩
      | ex a b => rw [q] at p1; exact p1.elim
      | no => rw [q] at p1; exact p1.elim
    obtain ⟨accF, SF, hF, pF⟩ := tot
    refine ⟨fun i k H2 => ∃ W2 S2 us acc, Ext X.K W1 H1 W2 H2 ∧ H2 p = some (.lst us) ∧ p ∉ W2.m ∧ ¬ W2.fz p ∧ ¬ W2.rs p ∧ SRel X.K W2 H2 S2 ∧ DRels X.K W2 H2 acc us ∧ lcR g c f (wipeD en vs) n k i acc S2 = .ok accF SF, ⟨m, W1, S1, [], [], ext_more s1 hp0, upd_same, hn1, hz1, hr1, s1.more hp0, DRels.nil, hF⟩, ?_⟩
    rintro i k H2 ⟨W2, S2, us, acc, x2, a1, a2, a3, a4, s2, ra, hL⟩
    have hr := r1 (W2.res p) H2 S2 (x2.trans ext_res) (s2.res a1 a2 a3) i
    cases k with
    | zero => simp only [lcR] at hL; cases hL
    | succ k =>
      unfold lcR at hL
      split at hL
      · rename_i ds hn
        cases cc : ds[i]? with
        | none =>
          have ed : ItD.at S2 i (.live n) = some none := by simp only [ItD.at, hn, cc]
          rw [ed] at hr
          rw [cc] at hL
          cases hL
          exact .inl ⟨hr, fin x2 a1 a2 a3 a4 s2 ra pF⟩
        | some d =>
          have ed : ItD.at S2 i (.live n) = some (some d) := by simp only [ItD.at, hn, cc]
          rw [ed] at hr
          rw [cc] at hL
          obtain ⟨hgo, hy⟩ := hr
          refine .inr ⟨hgo, fun H' => ∃ W2 S2 us acc, Ext X.K W1 H1 W2 H' ∧ H' p = some (.lst us) ∧ p ∉ W2.m ∧ ¬ W2.fz p ∧ ¬ W2.rs p ∧ SRel X.K W2 H' S2 ∧ DRels X.K W2 H' acc us ∧ lcR g c f (wipeD en vs) n k (i + 1) acc S2 = .ok accF SF, fun H' q => ⟨k, Nat.lt_succ_self k, q⟩, ?_⟩
          intro x H3 hx
          obtain ⟨x3, s3, r3⟩ := hy x H3 hx
          cases q : g d (wipeD en vs) S2 with
          | none => simp only [q] at hL; cases hL
          | some pr =>
            obtain ⟨e4, S4⟩ := pr
            have es := hg.keep _ _ _ _ _ q
            subst es
            simp only [q] at hL
            refine item x2 a1 a2 a3 a4 x3 s3 r3 ra q fun σ2 hw2 he2 x3' => ?_
            refine ⟨hw2, lc_turn (K := X.K) (kont := fun a s => lcR g c f (wipeD en vs) n k (i + 1) a s) he2 s3.ofres (((x3.rs p (.inr rfl)).2).trans a1) a2 a3 a4 (ra.ext x3') hL fun acc' us' W' H' S' y1 y2 y3 y4 y5 y6 y7 y8 => ⟨W', S', us', acc', (x2.trans x3').trans y1, y2, y3, y4, y5, y6, y7, y8⟩⟩
      · cases hL
theorem wipe_set {σ : St} {i : Nat} {v : Option V} : wipe (σ.set i v) [i] = wipe σ [i] := by
  show (σ.set i v).set i none = σ.set i none
  rw [List.set_set]
theorem wipe_wipe1 (i : Nat) (σ : St) : wipe (wipe σ [i]) [i] = wipe σ [i] := by
  show ((σ.set i none).set i none) = σ.set i none
  rw [List.set_set]
theorem own_name {K : PySem.W.Frag} (i : Nat) : OwnG K (gName i) [i] (gtName i) := by
  refine ⟨fun d en S e1 S1 h => ?_, fun W H σ en S d v e1 S1 Q he r h k => ?_⟩
  · simp only [gtName] at h; cases h; rfl
  · simp only [gtName] at h; cases h
    exact k _ wipe_set (he.set r)
/-- a pair of names -/
def gtPair (i j : Nat) : FG := fun d en S => match d with
  | .tup [a, b] => some ((en.set i (some a)).set j (some b), S)
  | _ => none
theorem wipe_two {σ : St} {i j : Nat} {v w : Option V} : wipe ((σ.set i v).set j w) [i, j] = wipe σ [i, j] := by
  show ((((σ.set i v).set j w).set j none).set i none) = ((σ.set j none).set i none)
  rw [List.set_set]
  by_cases h : i = j
  · subst h; simp [List.set_set]
  · rw [List.set_comm _ _ h, List.set_set]
theorem wipe_wipe2 (i j : Nat) (σ : St) : wipe (wipe σ [i, j]) [i, j] = wipe σ [i, j] := by
  show (((σ.set j none).set i none).set j none).set i none = (σ.set j none).set i none
  by_cases h : i = j
  · subst h; simp [List.set_set]
  · rw [List.set_comm (i := i) (j := j) none none h, List.set_set, List.set_set]
theorem own_pair {K : PySem.W.Frag} (i j : Nat) : OwnG K (gTup K 2 (gCons (gName i) (gCons (gName j) gNil))) [i, j] (gtPair i j) := by
  refine ⟨fun d en S e1 S1 h => ?_, fun W H σ en S d v e1 S1 Q he r h k => ?_⟩
  · unfold gtPair at h; split at h <;> cases h; rfl
  · unfold gtPair at h
    split at h
    · cases h
      unfold DRel at r
      obtain ⟨a, vs, rfl, h1, h2⟩ := r
      obtain ⟨v1, v2, rfl, h3, h4⟩ := drels2 h2
      exact ⟨a, _, rfl, h1, rfl, v1, _, rfl, v2, _, rfl, rfl, k _ wipe_two ((he.set h3).set h4)⟩
    · cases h
/-- [elt for tg in iter if ..] -/
theorem pf_lc (m : Nat) (mu : Bool) (own : List (Str × Nat)) (hc : X.calm = true) (hN : X.N.Nodup) (hg : OwnG X.K t (own.map (·.2)) g) (hw : ∀ σ : St, wipe (wipe σ (own.map (·.2))) (own.map (·.2)) = wipe σ (own.map (·.2))) (hi : PFI X Wx tg iter fi) (ok : BlkOk X.N X.env.scope scope own)
    (hgp : ∀ (s : Shared) (H : Hp) (C : Addr) (cl : List (Str × Addr)) (fp : List Addr), PG (X.blk s H scope (compEnvC scope cl C X.env) fp) tg t)
    (ht : ∀ (s : Shared) (H : Hp) (C : Addr) (cl : List (Str × Addr)) (fp : List Addr), PFTs (X.blk s H scope (compEnvC scope cl C X.env) fp) ifs c)
    (he : ∀ (s : Shared) (H : Hp) (C : Addr) (cl : List (Str × Addr)) (fp : List Addr), PFE (X.blk s H scope (compEnvC scope cl C X.env) fp) F0 elt f) (hs : ∀ x, foldedSetIterable iter X.env x = pure x := by intro _; rfl) :
    PFE X Wx (.ListComp elt [⟨tg, iter, ifs, 0⟩] scope pos) (fLc m mu (own.map (·.2)) fi g c f) :=
  ⟨fun W H σ en S Q he' hs' hp => PE_w (pe_lc hc hN pi_w ok hgp (fun s H C cl fp => pts_ty (ht s H C cl fp)) (fun s H C cl fp => pe_ty (he s H C cl fp)) hs) (lc_run m mu hg hw hi he' hs' hp)⟩
/-- y = [..] -/
theorem pfs_lc (m : Nat) (mu : Bool) (own : List (Str × Nat)) {i : Nat} {y : Str} {py spos : Pos} (hc : X.calm = true) (hN : X.N.Nodup) (hy : X.N[i]? = some y) (hyl : X.env.scope.names.lookup y = some .local)
    (hsw : swapsWith (.ListComp elt [⟨tg, iter, ifs, 0⟩] scope pos) (some (.Name y py)) spos.line X.env = pure true) (hg : OwnG X.K t (own.map (·.2)) g) (hw : ∀ σ : St, wipe (wipe σ (own.map (·.2))) (own.map (·.2)) = wipe σ (own.map (·.2))) (hi : PFI X Wx tg iter fi) (ok : BlkOk X.N X.env.scope scope own)
    (hgp : ∀ (s : Shared) (H : Hp) (C : Addr) (cl : List (Str × Addr)) (fp : List Addr), PG (X.blk s H scope (compEnvC scope cl C X.env) fp) tg t)
    (ht : ∀ (s : Shared) (H : Hp) (C : Addr) (cl : List (Str × Addr)) (fp : List Addr), PFTs (X.blk s H scope (compEnvC scope cl C X.env) fp) ifs c)
    (he : ∀ (s : Shared) (H : Hp) (C : Addr) (cl : List (Str × Addr)) (fp : List Addr), PFE (X.blk s H scope (compEnvC scope cl C X.env) fp) F0 elt f) (hs : ∀ x, foldedSetIterable iter X.env x = pure x := by intro _; rfl) :
    PFS X Wx (.Assign [.Name y py] (.ListComp elt [⟨tg, iter, ifs, 0⟩] scope pos) spos) (fAsg (fLc m mu (own.map (·.2)) fi g c f) (gtName i)) := by
  refine ⟨fun W H σ en S Z he' hs' hp => PS_w (ps_setLc (tt := tyT X.K c) (te := tyE X.K f) hc hN hy hyl hsw pi_w ok hgp (fun s H C cl fp => pts_ty (ht s H C cl fp)) (fun s H C cl fp => pe_ty (he s H C cl fp)) hs) ?_⟩
  refine lc_run m mu hg hw hi he' hs' (post_then he' hp fun d S1 W1 H1 x e1 s1 r1 p1 => ?_)
  exact p1 W1 H1 _ Ext.refl s1 ((he'.ext e1).set r1)
end comp
end PF

namespace PF
open PySem L2
variable [Tab]
/-! ### what is closed: no number beyond k -/
mutual
def clD (k : Nat) : D → Prop
  | .tup ds => clDs k ds
  | .lst ds => clDs k ds
  | .ref n => n < k
  | _ => True
def clDs (k : Nat) : List D → Prop
  | [] => True
  | d :: ds => clD k d ∧ clDs k ds
end
def clKs (k : Nat) : List (Key × D) → Prop
  | [] => True
  | (_, d) :: ds => clD k d ∧ clKs k ds
def clFs (k : Nat) : List (Str × D) → Prop
  | [] => True
  | (_, d) :: ds => clD k d ∧ clFs k ds
def clO (k : Nat) : O → Prop
  | .lst ds => clDs k ds
  | .dic kvs => clKs k kvs
  | .ins _ fs => clFs k fs
  | .dead => True
def clS (S : So) : Prop := ∀ o ∈ S, clO S.length o
section clo
variable {K : PySem.W.Frag} {W : Wd} {H : Hp} {S : So} {k : Nat}
mutual
theorem DRel.clo : ∀ {d : D} {v : V}, DRel K W H d v → clD W.m.length d
  | .non, _, _ => trivial
  | .bl _, _, _ => trivial
  | .int _, _, _ => trivial
  | .str _, _, _ => trivial
  | .scr _, _, _ => trivial
  | .tup ds, v, h => by unfold DRel at h; obtain ⟨a, vs, _, _, h⟩ := h; unfold clD; exact DRels.clo h
  | .lst ds, v, h => by unfold DRel at h; obtain ⟨a, vs, _, _, h⟩ := h; unfold clD; exact DRels.clo h
  | .ref n, v, h => by unfold DRel at h; obtain ⟨a, _, h⟩ := h; unfold clD; exact (List.getElem?_eq_some_iff.mp h).1
theorem DRels.clo : ∀ {ds : List D} {vs : List V}, DRels K W H ds vs → clDs W.m.length ds
  | [], _, _ => trivial
  | d :: ds, vs, h => by unfold DRels at h; obtain ⟨v, r, _, h1, h2⟩ := h; unfold clDs; exact ⟨DRel.clo h1, DRels.clo h2⟩
end
theorem KRel.clo : ∀ {ds : List (Key × D)} {vs : List (Key × V)}, KRel K W H ds vs → clKs W.m.length ds
  | [], _, _ => trivial
  | (k, d) :: ds, vs, h => by unfold KRel at h; obtain ⟨v, r, _, h1, h2⟩ := h; exact ⟨DRel.clo h1, KRel.clo h2⟩
theorem FRel.clo : ∀ {ds : List (Str × D)} {vs : List (Str × V)}, FRel K W H ds vs → clFs W.m.length ds
  | [], _, _ => trivial
  | (k, d) :: ds, vs, h => by unfold FRel at h; obtain ⟨v, r, _, h1, h2⟩ := h; exact ⟨DRel.clo h1, FRel.clo h2⟩
theorem SRel.clo (s : SRel K W H S) : clS S := by
  intro o ho
  obtain ⟨n, hn⟩ := List.getElem?_of_mem ho
  obtain ⟨a, h1, h2⟩ := s.at hn
  rw [← s.len]
  cases o with
  | lst ds => obtain ⟨vs, _, h⟩ := h2; exact h.clo
  | dic ds => obtain ⟨vs, _, h⟩ := h2; exact h.clo
  | ins C fs => obtain ⟨dx, vs, _, h⟩ := h2; exact h.clo
  | dead => trivial
/-- the first k objects stay, lists behind them are frozen -/
def Wd.cut (W : Wd) (k : Nat) : Wd := ⟨W.m.take k, fun a => W.fz a ∨ ∃ n : Nat, k ≤ n ∧ W.m[n]? = some a, W.rs⟩
mutual
theorem DRel.cut : ∀ {d : D} {v : V}, DRel K W H d v → clD k d → DRel K (W.cut k) H d v
  | .non, _, h, _ => h
  | .bl _, _, h, _ => h
  | .int _, _, h, _ => h
  | .str _, _, h, _ => h
  | .scr _, _, h, _ => by unfold DRel at h ⊢; obtain ⟨a, h1, h2⟩ := h; exact ⟨a, h1, h2.imp id (Or.imp id fun q => ⟨.inl q.1, q.2⟩)⟩
  | .tup ds, v, h, c => by
    unfold DRel at h ⊢; obtain ⟨a, vs, h1, h2, h3⟩ := h
    unfold clD at c
    exact ⟨a, vs, h1, h2, DRels.cut h3 c⟩
  | .lst ds, v, h, c => by
    unfold DRel at h ⊢; obtain ⟨a, vs, h1, h2, h3⟩ := h
    unfold clD at c
    exact ⟨a, vs, h1, ⟨.inl h2.1, h2.2⟩, DRels.cut h3 c⟩
  | .ref n, v, h, c => by
    unfold DRel at h ⊢; obtain ⟨a, h1, h2⟩ := h
    unfold clD at c
    exact ⟨a, h1, by show (W.m.take k)[n]? = _; rw [List.getElem?_take, if_pos c]; exact h2⟩
theorem DRels.cut : ∀ {ds : List D} {vs : List V}, DRels K W H ds vs → clDs k ds → DRels K (W.cut k) H ds vs
  | [], _, h, _ => h
  | d :: ds, vs, h, c => by
    unfold DRels at h ⊢; obtain ⟨v, r, h1, h2, h3⟩ := h
    unfold clDs at c
    exact ⟨v, r, h1, DRel.cut h2 c.1, DRels.cut h3 c.2⟩
end
theorem KRel.cut : ∀ {ds : List (Key × D)} {vs : List (Key × V)}, KRel K W H ds vs → clKs k ds → KRel K (W.cut k) H ds vs
  | [], _, h, _ => h
  | (y, d) :: ds, vs, h, c => by
    unfold KRel at h ⊢; obtain ⟨v, r, h1, h2, h3⟩ := h
    exact ⟨v, r, h1, DRel.cut h2 c.1, KRel.cut h3 c.2⟩
theorem FRel.cut : ∀ {ds : List (Str × D)} {vs : List (Str × V)}, FRel K W H ds vs → clFs k ds → FRel K (W.cut k) H ds vs
  | [], _, h, _ => h
  | (y, d) :: ds, vs, h, c => by
    unfold FRel at h ⊢; obtain ⟨v, r, h1, h2, h3⟩ := h
    exact ⟨v, r, h1, DRel.cut h2 c.1, FRel.cut h3 c.2⟩
theorem SRel.cut (s : SRel K W H S) (h : ∀ o ∈ S.take k, clO k o) : SRel K (W.cut k) H (S.take k) where
  tab := s.tab
  len := by show (W.m.take k).length = _; simp [s.len]
  inj := s.inj.sublist (List.take_sublist _ _)
  dom := fun n a q => by
    have q : (W.m.take k)[n]? = some a := q
    rw [List.getElem?_take] at q
    split at q
    · exact s.dom n a q
    · cases q
  fzd := fun a q => by
    rcases q with q | ⟨n, _, q⟩
    · exact s.fzd a q
    · exact mu_nt (s.dom n a q)
  dis := fun n a q f => by
    have q : (W.m.take k)[n]? = some a := q
    rw [List.getElem?_take] at q
    split at q
    · rcases f with f | ⟨n', hn', f⟩
      · exact s.dis n a q f
      · have := (List.getElem_inj s.inj).mp ((List.getElem?_eq_some_iff.mp q).2.trans (List.getElem?_eq_some_iff.mp f).2.symm)
        omega
    · cases q
  rsd := fun a q => ⟨(s.rsd a q).1, fun z => (s.rsd a q).2.1 (List.mem_of_mem_take z), fun f => by
    rcases f with f | ⟨n, _, f⟩
    · exact (s.rsd a q).2.2 f
    · exact (s.rsd a q).2.1 (List.mem_of_getElem? f)⟩
  obj := fun n a o q q' => by
    have q : (W.m.take k)[n]? = some a := q
    have ho := h o (List.mem_of_getElem? q')
    rw [List.getElem?_take] at q q'
    split at q
    · rename_i hn
      rw [if_pos hn] at q'
      have r := s.obj n a o q q'
      cases o with
      | lst ds => obtain ⟨vs, h1, h2⟩ := r; exact ⟨vs, h1, h2.cut ho⟩
      | dic ds => obtain ⟨vs, h1, h2⟩ := r; exact ⟨vs, h1, h2.cut ho⟩
      | ins C fs => obtain ⟨dx, vs, h1, h2⟩ := r; exact ⟨dx, vs, h1, h2.cut ho⟩
      | dead => trivial
    · cases q
mutual
/-- what comes back, new lists frozen -/
inductive Cv (S : So) (k : Nat) : D → D → Prop
  | non : Cv S k .non .non
  | bl (b : Bool) : Cv S k (.bl b) (.bl b)
  | int (i : Int) : Cv S k (.int i) (.int i)
  | str (x : Str) : Cv S k (.str x) (.str x)
  | scr (x : List Int) : Cv S k (.scr x) (.scr x)
  | tup {ds es : List D} : Cvs S k ds es → Cv S k (.tup ds) (.tup es)
  | lst {ds es : List D} : Cvs S k ds es → Cv S k (.lst ds) (.lst es)
  | old {n : Nat} : n < k → Cv S k (.ref n) (.ref n)
  | new {n : Nat} {ds es : List D} : k ≤ n → S[n]? = some (.lst ds) → Cvs S k ds es → Cv S k (.ref n) (.lst es)
inductive Cvs (S : So) (k : Nat) : List D → List D → Prop
  | nil : Cvs S k [] []
  | cons {d e : D} {ds es : List D} : Cv S k d e → Cvs S k ds es → Cvs S k (d :: ds) (e :: es)
end
mutual
theorem Cv.same : ∀ {d : D}, clD k d → Cv S k d d
  | .non, _ => .non
  | .bl b, _ => .bl b
  | .int b, _ => .int b
  | .str b, _ => .str b
  | .scr b, _ => .scr b
  | .tup ds, h => by unfold clD at h; exact .tup (Cvs.same h)
  | .lst ds, h => by unfold clD at h; exact .lst (Cvs.same h)
  | .ref n, h => by unfold clD at h; exact .old h
theorem Cvs.same : ∀ {ds : List D}, clDs k ds → Cvs S k ds ds
  | [], _ => .nil
  | d :: ds, h => by unfold clDs at h; exact .cons (Cv.same h.1) (Cvs.same h.2)
end
theorem cv_rel (s : SRel K W H S) {d e : D} (h : Cv S k d e) : ∀ {v : V}, DRel K W H d v → DRel K (W.cut k) H e v := by
  refine Cv.rec (motive_1 := fun d e _ => ∀ {v : V}, DRel K W H d v → DRel K (W.cut k) H e v) (motive_2 := fun ds es _ => ∀ {vs : List V}, DRels K W H ds vs → DRels K (W.cut k) H es vs) ?_ ?_ ?_ ?_ ?_ ?_ ?_ ?_ ?_ ?_ ?_ h
  · intro v r; exact r
  · intro _ v r; exact r
  · intro _ v r; exact r
  · intro _ v r; exact r
  · intro _ v h; unfold DRel at h ⊢; obtain ⟨a, h1, h2⟩ := h; exact ⟨a, h1, h2.imp id (Or.imp id fun q => ⟨.inl q.1, q.2⟩)⟩
  · intro ds es _ ih v r
    unfold DRel at r ⊢; obtain ⟨a, vs, h1, h2, h3⟩ := r
    exact ⟨a, vs, h1, h2, ih h3⟩
  · intro ds es _ ih v r
    unfold DRel at r ⊢; obtain ⟨a, vs, h1, h2, h3⟩ := r
    exact ⟨a, vs, h1, ⟨.inl h2.1, h2.2⟩, ih h3⟩
  · intro n hn v r
    exact DRel.cut r (by unfold clD; exact hn)
  · intro n ds es hn hS _ ih v r
    unfold DRel at r ⊢; obtain ⟨a, h1, h2⟩ := r
    obtain ⟨vs, h3, h4⟩ := s.obj n a _ h2 hS
    exact ⟨a, vs, h1, ⟨.inr ⟨n, hn, h2⟩, h3⟩, ih h4⟩
  · intro vs r; exact r
  · intro d e ds es _ _ ih1 ih2 vs r
    unfold DRels at r ⊢; obtain ⟨v, r', h1, h2, h3⟩ := r
    exact ⟨v, r', h1, ih1 h2, ih2 h3⟩
end clo
/-! ### defs -/
abbrev FN := List D → So → Rs D
def spD (K : PySem.W.Frag) (F : FN) (n : Nat) : Sp := fun vs H Q E => vs.length = n ∧ ∃ W S ds, SRel K W H S ∧ DRels K W H ds vs ∧ Post K DRel W H (F ds S) Q E
def startD (N : List Str) (ds : List D) : En := ds.map some ++ List.replicate (N.length - ds.length) none
theorem start_rel {K : PySem.W.Frag} {W : Wd} {H : Hp} {N : List Str} {ds : List D} {vs : List V} (r : DRels K W H ds vs) : ERel K W H (startD N ds) (L2.start N vs) := by
  unfold startD L2.start
  refine ⟨by simp [r.length], fun i d h => ?_⟩
  by_cases c : i < ds.length
  · rw [List.getElem?_append_left (by simpa using c), List.getElem?_map] at h
    rw [List.getElem?_append_left (by simpa [← r.length] using c), List.getElem?_map]
    cases e : ds[i]? with
    | none => rw [e] at h; cases h
    | some d' =>
      rw [e] at h; cases h
      obtain ⟨v, h1, h2⟩ := r.get e
      exact ⟨v, by rw [h1]; rfl, h2⟩
  · rw [List.getElem?_append_right (by simpa using c), List.getElem?_replicate] at h
    split at h <;> cases h
/-- a body's end gives what the def is worth -/
def RetOk (S : So) (fl : Fl) (r : Rs D) : Prop := match r with
  | .no => True
  | .ok e S2 => S.length ≤ S2.length ∧ (∀ o ∈ S2, clO S2.length o) ∧ (match fl with
    | .rt d S1 => S2 = S1.take S2.length ∧ Cv S1 S2.length d e
    | .nx _ S1 => S2 = S1.take S2.length ∧ e = .non
    | _ => False)
  | .ex C S2 => S.length ≤ S2.length ∧ (∀ o ∈ S2, clO S2.length o) ∧ (match fl with
    | .ex C' _ S1 => C' = C ∧ S2 = S1.take S2.length
    | _ => False)
theorem ext_cut {K : PySem.W.Frag} {W W1 : Wd} {H H1 : Hp} {k : Nat} (x : Ext K W H W1 H1) (h : W.m.length ≤ k) : Ext K W H (W1.cut k) H1 :=
  ⟨⟨fun n a q => by
    show (W1.m.take k)[n]? = _
    rw [List.getElem?_take, if_pos (Nat.lt_of_lt_of_le (List.getElem?_eq_some_iff.mp q).1 h)]
    exact x.m n a q, fun a q => .inl (x.fz a q), x.tup, x.lst, x.scr⟩, x.rs⟩
theorem ret_post {K : PySem.W.Frag} {W : Wd} {H : Hp} {S : So} {fl : Fl} {r : Rs D} {Q : VK} {E : XK} (s : SRel K W H S) (h : RetOk S fl r) (p : Post K DRel W H r Q E) :
    PostS K W H fl { nx := fun _ H' => Q .non H', rt := Q } (fun c d _ H => E c d H) := by
  cases r with
  | no => exact p.elim
  | ok e S2 =>
    obtain ⟨h0, h1, h2⟩ := h
    cases fl with
    | rt d S1 =>
      obtain ⟨h3, h4⟩ := h2
      intro W1 H1 v x s1 r1
      refine p (W1.cut S2.length) H1 v (ext_cut x (by rw [s.len]; exact h0)) ?_ (cv_rel s1 h4 r1)
      have := s1.cut (k := S2.length) (by rw [← h3]; exact h1)
      rw [← h3] at this
      exact this
    | nx e1 S1 =>
      obtain ⟨h3, h4⟩ := h2
      subst h4
      intro W1 H1 σ x s1 r1
      refine p (W1.cut S2.length) H1 .non (ext_cut x (by rw [s.len]; exact h0)) ?_ dnon
      have := s1.cut (k := S2.length) (by rw [← h3]; exact h1)
      rw [← h3] at this
      exact this
    | _ => exact h2.elim
  | ex C S2 =>
    obtain ⟨h0, h1, h2⟩ := h
    cases fl with
    | ex C' e1 S1 =>
      obtain ⟨h3, h4⟩ := h2
      subst h3
      intro W1 H1 σ d x s1 r1
      refine p (W1.cut S2.length) H1 d (ext_cut x (by rw [s.len]; exact h0)) ?_
      have := s1.cut (k := S2.length) (by rw [← h4]; exact h1)
      rw [← h4] at this
      exact this
    | _ => exact h2.elim
section fns
variable {P : Program} {w : World} {K : PySem.W.Frag} {mg : Str → Option Value} {base : Heap}
/-- THE RULE for a def -/
theorem fn_ok {x qual : Str} {st : Stmt} {f : Addr} {fd : FuncData} {N ps : List Str} {k : Nat} {fb : FS} {F : FN} (F0 : Fun K x qual st f fd) (sc : FnScope N ps (defScope st))
    (hb : ∀ (cdv : Value) (A : Around) (outer : List Env) (s : Shared) (H : Hp) (E : XK), Room k (A.deeper (PyProof.Rows.envOfC qual (defScope st) s.heap.objs.size f cdv)) → PFB (cxOf (L2.CX P w) P w K mg base N qual (defScope st) f cdv A outer s H E) (fun c d _ H => E c d H) (defBody st) fb)
    (hF : ∀ ds S, ds.length = ps.length → clS S → clDs S.length ds → RetOk S (fb (startD N ds) S) (F ds S)) : FnOk P w K mg base (L2.CX P w) (k + 1) f fd ps (spD K F ps.length) := by
  refine F0.okX sc (fun vs H Q E h => h.1) (fun cdv A outer s H vs Q E hr h => ?_)
  obtain ⟨hl, W, S, ds, hs, rd, hp⟩ := h
  refine ⟨wSs _ (defBody st), pss_w, ?_⟩
  refine (hb cdv A outer s H E hr).run W H (L2.start N vs) (startD N ds) S _ (start_rel rd) hs ?_
  exact ret_post hs (hF ds S (by rw [rd.length]; exact hl) hs.clo (by have := rd.clo; rw [hs.len] at this; exact this)) hp
end fns
section calls
variable {X : Cx} {Wx : WX} {k n : Nat} {f C : Addr} {fd : FuncData} {ps : List Str} {F : FN} {x m : Str} {p pos apos : Pos} {e o : Expr} {es : List Expr} {fa : FA} {fo : FE}
def fCall (F : FN) (fa : FA) : FE := fun en S => (fa en S).bind fun ds S1 => F ds S1
/-- only n arguments -/
def FN.len (F : FN) (n : Nat) : FN := fun ds S => if ds.length = n then F ds S else .no
theorem pf_call (G : FnOk X.prog X.w X.K X.mg X.base (L2.CX X.prog X.w) k f fd ps (spD X.K F n)) (hr : Room k X.A) (hg : Gl X x) (hm : X.mg x = some (.ref f)) (hk : PySem.W.keepIn X.K (.ref f) = true) (hb : Binds X.K fd ps []) (tk : Takes X Wx)
    (ha : PFA X Wx (e :: es) fa) (hdb : (x == ("__debug__" : Str)) = false := by decide) (he : starEach (e :: es) X.env = (false, eval e X.env) :: starEach es X.env := by rfl) (hpl : (backTo pos (starEach es X.env)).any (·.1) = false := by rfl) :
    PFE X Wx (.Call (.Name x p) (e :: es) [] pos) (fCall (F.len n) fa) := by
  refine ⟨fun W H σ en S Q he' hs hp => PE_w (pe_callS G hr hg hm hk hb (fun σ => passAt tk σ) pa_w hdb he hpl) (ha.run W H σ en S _ he' hs (Post.bind hp fun ds S1 W1 H1 vs e1 s1 r1 p1 => ?_))⟩
  unfold FN.len at p1
  split at p1
  · exact ⟨by rw [← r1.length]; assumption, W1, S1, ds, s1, r1, p1⟩
  · exact p1.elim
/-- a def as its callers see it -/
structure Cal (P : Program) (w : World) (K : PySem.W.Frag) (mg : Str → Option Value) (base : Heap) (x : Str) (ps : List Str) (k : Nat) (F : FN) : Prop where
  ex : ∃ f fd, mg x = some (.ref f) ∧ PySem.W.keepIn K (.ref f) = true ∧ Binds K fd ps [] ∧ FnOk P w K mg base (L2.CX P w) k f fd ps (spD K F ps.length)
theorem pf_callC {j : Nat} (c : Cal X.prog X.w X.K X.mg X.base x ps k F) (hr : Room j X.A) (hj : k ≤ j) (hg : Gl X x) (tk : Takes X Wx)
    (ha : PFA X Wx (e :: es) fa) (hn : ps.length = n := by rfl) (hdb : (x == ("__debug__" : Str)) = false := by decide) (he : starEach (e :: es) X.env = (false, eval e X.env) :: starEach es X.env := by rfl) (hpl : (backTo pos (starEach es X.env)).any (·.1) = false := by rfl) :
    PFE X Wx (.Call (.Name x p) (e :: es) [] pos) (fCall (F.len n) fa) := by
  subst hn
  obtain ⟨f, fd, h1, h2, h3, h4⟩ := c.ex
  exact pf_call h4 (hr.mono hj) hg h1 h2 h3 tk ha hdb he hpl
/-- what the top says of an own error class without an init of its own -/
structure Exc (K : PySem.W.Frag) (mg : Str → Option Value) (x : Str) (C : Addr) : Prop where
  g : mg x = some (.ref C)
  q : PySem.W.excIn K C [.type "ValueError", .type "Exception", .type "BaseException", .type "object"] "ValueError.__new__" = true
  k : PySem.W.keepIn K (.ref C) = true
  b : PySem.W.subIn K (.ref C) (.type "BaseException") = some true
  t : PySem.W.typeIn K (.ref C) = some (.type "type")
/-- raise C('..') -/
def fRaise (C : Addr) : FS := fun en S => .ex C en S
theorem pfs_raise (hc : X.calm = true) (tk : Takes X Wx) (he : PMk X e (fun _ H Q => Q (.ref C) none H)) : PFS X Wx (.Raise (some e) none pos) (fRaise C) :=
  ⟨fun W H σ en S Z he' hs hp => PS_w (ps_raise hc tk he) (hp W H σ none Ext.refl hs he')⟩
theorem pfs_raiseE {m : Str} {j : Nat} {p2 : Pos} (ex : Exc X.K X.mg x C) (hc : X.calm = true) (tk : Takes X Wx) (hg : Gl X x) (hdb : (x == ("__debug__" : Str)) = false := by decide) :
    PFS X Wx (.Raise (some (.Call (.Name x p) [.Constant (.str m) j p2] [] apos)) none pos) (fRaise C) :=
  pfs_raise hc tk (pmk_own PySem.F.excBase_ValueError ex.q ex.g ex.k (raises_own ex.b ex.t) hg hdb)
/-- try: body except C1: suite .. -/
def handle (K : PySem.W.Frag) (C : Addr) : List (Addr × FS) → FS
  | [] => fun en S => .ex C en S
  | (C1, fs) :: r => fun en S => match PySem.W.exmOne K (.ref C) (.ref C1) with
    | some true => fs en S
    | some false => handle K C r en S
    | none => .no
def fTry (K : PySem.W.Frag) (fb : FS) (hds : List (Addr × FS)) : FS := fun en S => match fb en S with
  | .ex C e1 S1 => handle K C hds e1 S1
  | o => o
/-- nothing is raised in a suite -/
def quiet (f : FS) : FS := fun en S => match f en S with
  | .ex _ _ _ => .no
  | o => o
theorem pfb_quiet {X : Cx} {st : List Stmt} {fs : FS} {Wx : WX} (h : PFB X Wx st fs) : PFB X Wx st (quiet fs) := by
  refine ⟨fun W H σ en S Z he hs hp => h.run W H σ en S Z he hs ?_⟩
  unfold quiet at hp
  split at hp
  · exact hp.elim
  · exact hp
/-- the clauses -/
inductive PFH (X : Cx) : List ExceptHandler → List (Addr × FS) → Prop
  | nil : PFH X [] []
  | cons {x : Str} {C : Addr} {fs : FS} {b0 : Stmt} {suite : List Stmt} {np pos' : Pos} {hds : List ExceptHandler} {l : List (Addr × FS)} (hc : Names X x (.ref C))
      (hsu : ∀ (a : Addr) (oe : Obj) (cls : Value) (d : Option Addr) (pn : List (Addr × Obj)), PFB (X.suite a ((a, oe) :: pn)) F0 (b0 :: suite) fs) (r : PFH X hds l) :
      PFH X (.ExceptHandler (some (.Name x np)) none (b0 :: suite) pos' :: hds) ((C, quiet fs) :: l)
def tyS (K : PySem.W.Frag) (fs : FS) (Wx : WX) : TS := fun Z σ H => ∃ W en S, ERel K W H en σ ∧ SRel K W H S ∧ PostS K W H (fs en S) Z Wx
theorem pss_ty {X : Cx} {st : List Stmt} {fs : FS} {Wx : WX} (h : PFB X Wx st fs) : PSs X st (tyS X.K fs Wx) := ⟨fun pins s σ H Z I ⟨W, en, S, he, hs, hp⟩ => h.run W H σ en S Z he hs hp pins s I⟩
theorem pfh_ok {hds : List ExceptHandler} {l : List (Addr × FS)} (h : PFH X hds l) : HdsOk X hds (l.map fun p => (Value.ref p.1, fun _ _ _ => tyS X.K p.2 F0)) := by
  induction h with
  | nil => exact .nil
  | cons hc hsu r ih => exact .cons hc (fun a oe cls d pn _ _ => pss_ty (pfb_quiet (hsu a oe cls d pn))) ih
theorem postS_F0 {K : PySem.W.Frag} {W : Wd} {H : Hp} {fl : Fl} {Z : Ends} {Wx : WX} (h : PostS K W H fl Z Wx) (hn : ∀ C e S, fl ≠ .ex C e S) : PostS K W H fl Z F0 := by
  cases fl with
  | ex C e S => exact (hn C e S rfl).elim
  | _ => exact h
theorem pfh_quiet {hds : List ExceptHandler} {l : List (Addr × FS)} (h : PFH X hds l) : ∀ p ∈ l, ∀ en S C e S1, p.2 en S ≠ .ex C e S1 := by
  induction h with
  | nil => intro p hp; cases hp
  | cons hc hsu r ih =>
    intro p hp en S C e S1
    rcases List.mem_cons.mp hp with rfl | hp
    · intro q
      simp only [quiet] at q
      split at q
      · cases q
      · rename_i hne; exact hne C e S1 q
    · exact ih p hp en S C e S1
theorem pfs_try {body : List Stmt} {fb : FS} {h0 : ExceptHandler} {hds : List ExceptHandler} {l : List (Addr × FS)} (hs : X.stack = X.env :: X.outer) (hf : X.env.frame = some X.env.locals) (tk : Takes X Wx)
    (hb : ∀ (W : WX) (pn : List (Addr × Obj)) (xe : Value → Shared → Prop), Takes (X.tr pn xe) W → PassesOwn (model X.prog X.w) X.A X.env xe → PFB (X.tr pn xe) W body fb) (hh : PFH X (h0 :: hds) l) :
    PFS X Wx (.Try body (h0 :: hds) [] [] pos) (fTry X.K fb l) := by
  refine ⟨fun W H σ en S Z he' hs' hp => PS_w (ps_try_many (tb := fun W => tyS X.K fb W) hs hf tk (fun W pn xe tk' po => pss_ty (hb W pn xe tk' po)) (pfh_ok hh)) ⟨W, en, S, he', hs', ?_⟩⟩
  unfold fTry at hp
  cases q : fb en S with
  | ex C e1 S1 =>
    rw [q] at hp
    simp only at hp
    intro W1 H1 σ1 d x s1 r1
    replace hp := PostS.later hp x
    have hq := pfh_quiet hh
    clear hh q
    induction l with
    | nil => exact hp W1 H1 σ1 d Ext.refl s1 r1
    | cons p l ih =>
      simp only [handle] at hp
      split at hp
      · rename_i hx
        exact ⟨true, hx, fun _ a ha => ⟨W1, e1, S1, r1, s1, postS_F0 hp fun C e S z => hq p List.mem_cons_self _ _ _ _ _ z⟩, fun z => by cases z⟩
      · rename_i hx
        exact ⟨false, hx, fun z => (by cases z), fun _ => ih hp fun p' hp' => hq p' (List.mem_cons_of_mem _ hp')⟩
      · exact hp.elim
  | nx a b => rw [q] at hp; exact hp
  | rt a b => rw [q] at hp; exact hp
  | bk a b => rw [q] at hp; exact hp
  | ct a b => rw [q] at hp; exact hp
  | no => rw [q] at hp; exact hp
end calls
end PF

namespace PF
open PySem L2
variable [Tab]
/-! ### further tests and comparisons -/
section more
variable {X : Cx} {Wx : WX} {a b c d e : Expr} {fa fb fc fd : FE} {ga gb gc : FT} {pos : Pos}
def fIfT (g : FT) (f h : FT) : FT := fun en S => (g en S).bind fun k S1 => if k = true then f en S1 else h en S1
theorem pft_ifExp (hc : PFT X Wx c gc) (ha : PFT X Wx a ga) (hb : PFT X Wx b gb) : PFT X Wx (.IfExp c a b pos) (fIfT gc ga gb) := by
  refine ⟨fun W H σ en S Q he hs hp pins s I => PyProof.Rows.isTrue_IfExp ?_⟩
  have h1 : wT X c σ H fun k H1 => if k = true then wT X a σ H1 Q else wT X b σ H1 Q := by
    refine hc.run W H σ en S _ he hs (Post.bind hp fun k S1 W1 H1 x e1 s1 r1 p1 => ?_)
    cases r1
    cases k with
    | true => exact iteT (ha.run W1 H1 σ en S1 Q (he.ext e1) s1 p1)
    | false => exact iteF (hb.run W1 H1 σ en S1 Q (he.ext e1) s1 p1)
  refine thn (h1 pins s I) fun k s1 hk => ?_
  obtain ⟨H1, I1, q⟩ := hk
  cases k with
  | true => rw [if_pos rfl] at q ⊢; exact q pins s1 I1
  | false => rw [if_neg Bool.false_ne_true] at q ⊢; exact q pins s1 I1
/-- > of ints and of tuples of ints -/
theorem lexAt_shift {e r : Nat → Bool} {z : Bool} : ∀ (k i : Nat), Ob.lexAt e r z (i + 1) k = Ob.lexAt (fun j => e (j + 1)) (fun j => r (j + 1)) z i k
  | 0, i => rfl
  | k + 1, i => by
    rw [Ob.lexAt_succ, Ob.lexAt_succ, lexAt_shift k (i + 1)]
theorem lexGt_eq : ∀ (ns ms : List Int), Ob.lexAt (fun j => decide (ns.getD j 0 = ms.getD j 0)) (fun j => decide (ms.getD j 0 < ns.getD j 0)) (decide (ns.length > ms.length)) 0 (min ns.length ms.length) = HT.lexLt ms ns
  | [], [] => rfl
  | [], m :: ms => by simp [Ob.lexAt, HT.lexLt]
  | n :: ns, [] => by simp [Ob.lexAt, HT.lexLt]
  | n :: ns, m :: ms => by
    have e1 : min (n :: ns).length (m :: ms).length = min ns.length ms.length + 1 := by simp only [List.length_cons]; omega
    rw [e1, Ob.lexAt_succ, HT.lexLt_cons]
    by_cases h : n = m
    · subst h
      rw [if_pos rfl]
      have ih := lexGt_eq ns ms
      rw [← ih]
      simp only [List.getD_cons_zero, decide_true, if_true]
      rw [lexAt_shift]
      congr 1
      simp only [List.length_cons, gt_iff_lt, Nat.add_lt_add_iff_right]
    · have h' : ¬ m = n := fun q => h q.symm
      rw [if_neg h']
      simp [h]
def rGtT (K : PySem.W.Frag) : R2 := fun x y H Q => ∃ (a b : Addr) (ns ms : List Int), x = .ref a ∧ y = .ref b ∧ SqT K H a (ns.map V.int) ∧ SqT K H b (ms.map V.int) ∧ Q (.bl (HT.lexLt ms ns)) H
theorem op_gtT (hu : X.A.units < cLine) : OpR X (compareOp .Gt) (rGtT X.K) := by
  intro pins s σ H x y v u Q I rx ry ⟨p, q, ns, ms, ex, ey, hp, hq, k⟩
  subst ex; subst ey
  cases rx; cases ry
  obtain ⟨its, r1, p1, _⟩ := I.tuple hp
  obtain ⟨its2, r2, p2, _⟩ := I.tuple hq
  have i1 : PyProof.Rows.IntsAre its ns := Vals.ints r1
  have i2 : PyProof.Rows.IntsAre its2 ms := Vals.ints r2
  have z1 : its.toArray.size = ns.length := List.size_toArray.trans i1.length
  have z2 : its2.toArray.size = ms.length := List.size_toArray.trans i2.length
  have g1 : ∀ j (h : j < its.toArray.size), ∃ t, its.toArray[j] = .int (ns.getD j 0) t := fun j h => PyProof.Rows.IntsAre.int_at i1 _ _ (by simp at h; simp [h])
  have g2 : ∀ j (h : j < its2.toArray.size), ∃ t, its2.toArray[j] = .int (ms.getD j 0) t := fun j h => PyProof.Rows.IntsAre.int_at i2 _ _ (by simp at h; simp [h])
  have R := Ob.RcOp.tuples_gt (A := X.A) (s := s) (e := fun j => decide (ns.getD j 0 = ms.getD j 0)) (r := fun j => decide (ms.getD j 0 < ns.getD j 0)) p1 p2 hu
    (fun j h1 h2 => by
      obtain ⟨t, et⟩ := g1 j h1
      obtain ⟨t', et'⟩ := g2 j h2
      rw [et, et', ← Bool.beq_eq_decide_eq]
      exact SeqAt.EqAt.int_int _ _ _ _)
    (fun j h1 h2 _ => by
      obtain ⟨t, et⟩ := g1 j h1
      obtain ⟨t', et'⟩ := g2 j h2
      rw [et, et']
      exact Ob.RcOp.gt_int _ _ _ _)
  rw [z1, z2, lexGt_eq] at R
  exact R X.prog X.w X.xe (EP X pins σ Q) ⟨.bl _, H, I, rfl, k⟩
def gGtA : G2 := fun a b S => match a, b with
  | .int i, .int j => some (.bl (decide (j < i)), S)
  | .tup xs, .tup ys => match intsOf xs, intsOf ys with
    | some ns, some ms => some (.bl (HT.lexLt ms ns), S)
    | _, _ => none
  | _, _ => none
def rGtA (K : PySem.W.Frag) : R2 := fun x y H Q => rI0 (fun i j => .bl (decide (j < i))) x y H Q ∨ rGtT K x y H Q
theorem op_gtA (hu : X.A.units < cLine) : OpR X (compareOp .Gt) (rGtA X.K) := op_gt.or (op_gtT hu)
theorem opd_gtA {K : PySem.W.Frag} : OpD K (rGtA K) gGtA := by
  intro W H S x y a b Q s ra rb p
  unfold gGtA at p
  split at p
  · unfold DRel at ra rb; exact .inl ⟨_, _, ra, rb, p.here s dbl⟩
  · split at p
    · rename_i h1 h2
      obtain ⟨p1, e1, t1⟩ := tup_ints ra h1
      obtain ⟨p2, e2, t2⟩ := tup_ints rb h2
      exact .inr ⟨p1, p2, _, _, e1, e2, t1, t2, p.here s dbl⟩
    · exact p.elim
  · exact p.elim
theorem opd_imul {K : PySem.W.Frag} : OpD K (rI CMul fun i j => .int (i * j)) (gIc cMul fun i j => i * j) := opd_Ic fun i j h => cMul_ok h
/-- x in a row of flat things -/
def flD : D → Option V
  | .non => some .non
  | .bl b => some (.bl b)
  | .int i => some (.int i)
  | .str x => some (.str x)
  | _ => none
def flDs : List D → Option (List V)
  | [] => some []
  | d :: ds => match flD d, flDs ds with
    | some v, some r => some (v :: r)
    | _, _ => none
theorem flD_rel {K : PySem.W.Frag} {W : Wd} {H : Hp} {d : D} {v u : V} (r : DRel K W H d v) (h : flD d = some u) : v = u ∧ flatV u = true := by
  cases d <;> simp only [flD] at h <;> first | cases h | skip
  all_goals (unfold DRel at r; subst r; exact ⟨rfl, rfl⟩)
theorem flDs_rel {K : PySem.W.Frag} {W : Wd} {H : Hp} : ∀ {ds : List D} {vs us : List V}, DRels K W H ds vs → flDs ds = some us → vs = us ∧ us.all flatV = true
  | [], vs, us, r, h => by unfold DRels at r; subst r; simp only [flDs] at h; cases h; exact ⟨rfl, rfl⟩
  | d :: ds, vs, us, r, h => by
    unfold DRels at r; obtain ⟨v, vr, rfl, h1, h2⟩ := r
    simp only [flDs] at h
    split at h
    · cases h
      obtain ⟨rfl, e2⟩ := flD_rel h1 (by assumption)
      obtain ⟨rfl, e4⟩ := flDs_rel h2 (by assumption)
      exact ⟨rfl, by rw [List.all_cons, e2, e4]; rfl⟩
    · cases h
def inD (S : So) (a b : D) : Option Bool := match flD a, sqOf S b with
  | some x, some ds => match flDs ds with
    | some us => some (inV x us)
    | none => none
  | _, _ => none
def gIn : G2 := fun a b S => match inD S a b with
  | some k => some (.bl k, S)
  | none => none
def gNotIn : G2 := fun a b S => match inD S a b with
  | some k => some (.bl (!k), S)
  | none => none
theorem inD_rel {K : PySem.W.Frag} {W : Wd} {H : Hp} {S : So} {a b : D} {x y : V} {k : Bool} (s : SRel K W H S) (ra : DRel K W H a x) (rb : DRel K W H b y) (h : inD S a b = some k) :
    ∃ p xs, y = .ref p ∧ (SqL K H p xs ∨ SqT K H p xs) ∧ flatV x = true ∧ xs.all flatV = true ∧ inV x xs = k := by
  unfold inD at h
  split at h
  · rename_i u ds h1 h2
    split at h
    · rename_i us h3
      cases h
      obtain ⟨rfl, e1⟩ := flD_rel ra h1
      obtain ⟨p, vs, rfl, h4, h5⟩ := sqOf_rel s rb h2
      obtain ⟨rfl, e2⟩ := flDs_rel h5 h3
      exact ⟨p, vs, rfl, h4, e1, e2, rfl⟩
    · cases h
  · cases h
theorem opd_in {K : PySem.W.Frag} : OpD K (rIn K false) gIn := by
  intro W H S x y a b Q s ra rb p
  unfold gIn at p
  split at p
  · rename_i k hk
    obtain ⟨q, xs, rfl, h1, h2, h3, h4⟩ := inD_rel s ra rb hk
    exact ⟨q, xs, rfl, h1, h2, h3, by rw [if_neg Bool.false_ne_true, h4]; exact p.here s dbl⟩
  · exact p.elim
theorem opd_notin {K : PySem.W.Frag} : OpD K (rIn K true) gNotIn := by
  intro W H S x y a b Q s ra rb p
  unfold gNotIn at p
  split at p
  · rename_i k hk
    obtain ⟨q, xs, rfl, h1, h2, h3, h4⟩ := inD_rel s ra rb hk
    exact ⟨q, xs, rfl, h1, h2, h3, by rw [if_pos rfl, h4]; exact p.here s dbl⟩
  · exact p.elim
/-- a, b, c = x, y, z -/
def fPar3 (i j l : Nat) (fa : FA) : FS := fun en S => fthen en (fa en S) fun ds S1 => match ds with
  | [d1, d2, d3] => .nx (((en.set i (some d1)).set j (some d2)).set l (some d3)) S1
  | _ => .no
theorem pfs_par3 {i j l : Nat} {x y z : Str} {fa : FA} {px py pz pt : Pos} {kt k2 pt2} (hc : X.calm = true) (hN : X.N.Nodup) (hi : X.N[i]? = some x) (hj : X.N[j]? = some y) (hl : X.N[l]? = some z) (hij : i ≠ j) (hil : i ≠ l) (hjl : j ≠ l)
    (hx : X.env.scope.names.lookup x = some .local) (hy : X.env.scope.names.lookup y = some .local) (hz : X.env.scope.names.lookup z = some .local) (ha : PFA X Wx [a, b, c] fa)
    (hw : swappedStores [.Tuple [.Name x px, .Name y py, .Name z pz] kt pt] (.Tuple [a, b, c] k2 pt2) X.env = pure (some [x, y, z]))
    (hs : swapsWithSole [.Tuple [.Name x px, .Name y py, .Name z pz] kt pt] (.Tuple [a, b, c] k2 pt2) pos.line X.env = pure false := by rfl) :
    PFS X Wx (.Assign [.Tuple [.Name x px, .Name y py, .Name z pz] kt pt] (.Tuple [a, b, c] k2 pt2) pos) (fPar3 i j l fa) := by
  refine ⟨fun W H σ en S Z he' hs' hp => PS_w (ps_par3 hc hN hi hj hl hij hil hjl hx hy hz pa_w hw hs) (ha.run W H σ en S _ he' hs' (post_then he' hp fun ds S1 W1 H1 vs e1 s1 r1 p1 => ?_))⟩
  match ds, r1, p1 with
  | [d1, d2, d3], r1, p1 =>
    unfold DRels at r1
    obtain ⟨v1, vr, rfl, q1, r2⟩ := r1
    obtain ⟨v2, v3, rfl, q2, q3⟩ := drels2 r2
    exact ⟨v1, v2, v3, rfl, p1 W1 H1 _ Ext.refl s1 ((((he'.ext e1).set q1).set q2).set q3)⟩
  | [], _, p1 => exact p1.elim
  | [_], _, p1 => exact p1.elim
  | [_, _], _, p1 => exact p1.elim
  | _ :: _ :: _ :: _ :: _, _, p1 => exact p1.elim
/-- list(range(..)), tuple(range(..)) -/
def okRg (a b : Int) : Bool := decide (-(2 ^ 62) ≤ a) && decide (a < 2 ^ 62) && decide (-(2 ^ 62) ≤ b) && decide (b < 2 ^ 62) && decide ((b - a).toNat ≤ 2 ^ 24)
theorem okRg_ok {a b : Int} (h : okRg a b = true) : RgOk a b := by
  simp only [okRg, Bool.and_eq_true, decide_eq_true_eq] at h
  exact ⟨h.1.1.1.1, h.1.1.1.2, h.1.1.2, h.1.2, h.2⟩
theorem rg_rel {K : PySem.W.Frag} {W : Wd} {H : Hp} (lo hi : Int) : DRels K W H (rgD lo (hi - lo).toNat) (rgV lo hi) := by
  have e1 : rgD lo (hi - lo).toNat = ((List.range (hi - lo).toNat).map fun (i : Nat) => lo + (i : Int)).map D.int := by simp [rgD]
  have e2 : rgV lo hi = ((List.range (hi - lo).toNat).map fun (i : Nat) => lo + (i : Int)).map V.int := by simp [rgV]
  rw [e1, e2]
  exact DRels.ints _
def fLstRg1 (mu : Bool) (f : FE) : FE := fun en S => (f en S).bind fun d S1 => match d with
  | .int n => if okRg 0 n = true then ofO (some (newL mu (rgD 0 (n - 0).toNat) S1)) else .no
  | _ => .no
def fTupRg1 (f : FE) : FE := fun en S => (f en S).bind fun d S1 => match d with
  | .int n => if okRg 0 n = true then .ok (.tup (rgD 0 (n - 0).toNat)) S1 else .no
  | _ => .no
theorem pf_lstRg1 (mu : Bool) {p q : Pos} (hc : X.calm = true) (hg : Gl X "list") (hm : X.mg "list" = none) (hg2 : Gl X "range") (hm2 : X.mg "range" = none) (ha : PFE X Wx a fa)
    (na : starEach [a] X.env = (false, eval a X.env) :: starEach [] X.env := by rfl) (nb : starEach [.Call (.Name "range" p) [a] [] pos] X.env = (false, eval (.Call (.Name "range" p) [a] [] pos) X.env) :: starEach [] X.env := by rfl) {pos2 : Pos} :
    PFE X Wx (.Call (.Name "list" q) [.Call (.Name "range" p) [a] [] pos] [] pos2) (fLstRg1 mu fa) := by
  refine ⟨fun W H σ en S Q he hs hp => PE_w (pe_listRg hc hg hm (prg_1 hg2 hm2 pe_w na) nb) (ha.run W H σ en S _ he hs (Post.bind hp fun d S1 W1 H1 v e1 s1 r1 p1 => ?_))⟩
  cases d with
  | int n =>
    unfold DRel at r1
    simp only at p1
    split at p1
    · exact ⟨n, r1, okRg_ok (by assumption), fun q hq => new_list mu s1 (rg_rel 0 n) (postO p1) hq⟩
    · exact p1.elim
  | _ => exact p1.elim
theorem pf_tupRg1 {p q : Pos} (hc : X.calm = true) (hg : Gl X "tuple") (hm : X.mg "tuple" = none) (hg2 : Gl X "range") (hm2 : X.mg "range" = none) (ha : PFE X Wx a fa)
    (na : starEach [a] X.env = (false, eval a X.env) :: starEach [] X.env := by rfl) (nb : starEach [.Call (.Name "range" p) [a] [] pos] X.env = (false, eval (.Call (.Name "range" p) [a] [] pos) X.env) :: starEach [] X.env := by rfl) {pos2 : Pos} :
    PFE X Wx (.Call (.Name "tuple" q) [.Call (.Name "range" p) [a] [] pos] [] pos2) (fTupRg1 fa) := by
  refine ⟨fun W H σ en S Q he hs hp => PE_w (pe_tupRg hc hg hm (prg_1 hg2 hm2 pe_w na) nb) (ha.run W H σ en S _ he hs (Post.bind hp fun d S1 W1 H1 v e1 s1 r1 p1 => ?_))⟩
  cases d with
  | int n =>
    unfold DRel at r1
    simp only at p1
    split at p1
    · exact ⟨n, r1, okRg_ok (by assumption), fun q hq => new_tup s1 (rg_rel 0 n) p1 hq⟩
    · exact p1.elim
  | _ => exact p1.elim
end more
end PF

namespace PF
open PySem L2
variable [Tab]
/-! ### ends of a def -/
section ends
variable {S J S1 : So} {d e : D} {C : Addr} {en : En}
theorem ret_pure (hc : clS S) (hd : clD S.length d) : RetOk S (.rt d S) (.ok d S) := ⟨Nat.le_refl _, hc, by simp, Cv.same hd⟩
theorem ret_junk (hc : clS S) (hd : clD S.length d) : RetOk S (.rt d (S ++ J)) (.ok d S) := ⟨Nat.le_refl _, hc, by simp, Cv.same hd⟩
theorem ret_conv (hc : clS S) (h : Cv (S ++ J) S.length d e) : RetOk S (.rt d (S ++ J)) (.ok e S) := ⟨Nat.le_refl _, hc, by simp, h⟩
theorem ret_all (hl : S.length ≤ S1.length) (hc : clS S1) (hd : clD S1.length d) : RetOk S (.rt d S1) (.ok d S1) := ⟨hl, hc, by simp, Cv.same hd⟩
theorem ret_next (hc : clS S) : RetOk S (.nx en (S ++ J)) (.ok .non S) := ⟨Nat.le_refl _, hc, by simp, rfl⟩
theorem ret_next0 (hc : clS S) : RetOk S (.nx en S) (.ok .non S) := ⟨Nat.le_refl _, hc, by simp, rfl⟩
theorem ret_ex (hc : clS S) : RetOk S (.ex C en (S ++ J)) (.ex C S) := ⟨Nat.le_refl _, hc, rfl, by simp⟩
theorem ret_ex0 (hc : clS S) : RetOk S (.ex C en S) (.ex C S) := ⟨Nat.le_refl _, hc, rfl, by simp⟩
theorem ret_no {fl : Fl} : RetOk S fl .no := trivial
end ends
/-! ### the equations of the functions, for simp -/
theorem nr {α : Sort _} {a b : α} (h : a = b) : a = b := h
section eqs
variable {α β : Type} {en e1 : En} {S S1 S2 : So} {d : D} {C : Addr}
@[simp] theorem bind_ok (a : α) (S : So) (k : α → So → Rs β) : (Rs.ok a S).bind k = k a S := rfl
@[simp] theorem bind_ex (C : Addr) (S : So) (k : α → So → Rs β) : (Rs.ex C S).bind k = .ex C S := rfl
@[simp] theorem bind_no (k : α → So → Rs β) : (Rs.no).bind k = .no := rfl
@[simp] theorem then_ok (en : En) (a : α) (S : So) (k : α → So → Fl) : fthen en (.ok a S) k = k a S := rfl
@[simp] theorem then_ex (en : En) (C : Addr) (S : So) (k : α → So → Fl) : fthen en (.ex C S) k = .ex C en S := rfl
@[simp] theorem then_no (en : En) (k : α → So → Fl) : fthen en .no k = .no := rfl
@[simp] theorem ofO_some (d : D) (S : So) : ofO (some (d, S)) = .ok d S := rfl
@[simp] theorem ofO_none : ofO none = .no := rfl
@[simp] theorem newL_f (ds : List D) (S : So) : newL false ds S = (.lst ds, S) := rfl
@[simp] theorem newL_t (ds : List D) (S : So) : newL true ds S = (.ref S.length, S ++ [.lst ds]) := rfl
/-- a name's value -/
def valO (o : Option (Option D)) (S : So) : Rs D := match o with
  | some (some d) => .ok d S
  | _ => .no
@[simp] theorem valO_some (d : D) (S : So) : valO (some (some d)) S = .ok d S := rfl
@[simp] theorem fVar_eq (i : Nat) : fVar i en S = valO en[i]? S := rfl
@[simp] theorem fC_eq (d : D) : fC d en S = .ok d S := rfl
@[simp] theorem fOp_eq (g : G2) (fa fb : FE) : fOp g fa fb en S = (fa en S).bind fun a S1 => (fb en S1).bind fun b S2 => ofO (g a b S2) := rfl
@[simp] theorem fTst_eq (f : FE) : fTst f en S = (f en S).bind isB := rfl
@[simp] theorem isB_bl (b : Bool) : isB (.bl b) S = .ok b S := rfl
@[simp] theorem fTru_eq (f : FE) : fTru f en S = (f en S).bind isT := rfl
@[simp] theorem isT_bl (b : Bool) : isT (.bl b) S = .ok b S := rfl
@[simp] theorem isT_int (i : Int) : isT (.int i) S = .ok (i != 0) S := rfl
@[simp] theorem isT_non : isT .non S = .ok false S := rfl
@[simp] theorem fNotT_eq (g : FT) : fNotT g en S = (g en S).bind fun k S1 => .ok (!k) S1 := rfl
@[simp] theorem fAndT_eq (g h : FT) : fAndT g h en S = (g en S).bind fun k S1 => if k = true then h en S1 else .ok false S1 := rfl
@[simp] theorem fOrT_eq (g h : FT) : fOrT g h en S = (g en S).bind fun k S1 => if k = true then .ok true S1 else h en S1 := rfl
/-- the bool of a value -/
def asB (d : D) (k : Bool → Rs α) : Rs α := match d with
  | .bl b => k b
  | _ => .no
@[simp] theorem asB_bl (b : Bool) (k : Bool → Rs α) : asB (.bl b) k = k b := rfl
@[simp] theorem fAndV_eq (f g : FE) : fAndV f g en S = (f en S).bind fun d S1 => asB d fun k => if k = true then g en S1 else .ok (.bl false) S1 := by
  rfl
@[simp] theorem fOrV_eq (f g : FE) : fOrV f g en S = (f en S).bind fun d S1 => asB d fun k => if k = true then .ok (.bl true) S1 else g en S1 := by
  rfl
@[simp] theorem fNotV_eq (f : FE) : fNotV f en S = (f en S).bind fun d S1 => asB d fun k => .ok (.bl (!k)) S1 := by
  rfl
@[simp] theorem fIf_eq (g : FT) (f h : FE) : fIf g f h en S = (g en S).bind fun k S1 => if k = true then f en S1 else h en S1 := rfl
@[simp] theorem fIfT_eq (g : FT) (f h : FT) : fIfT g f h en S = (g en S).bind fun k S1 => if k = true then f en S1 else h en S1 := rfl
@[simp] theorem fChain_eq (g g' : G2) (fa fb fc : FE) : fChain g g' fa fb fc en S = (fa en S).bind fun x S1 => (fb en S1).bind fun y S2 => (ofO (g x y S2)).bind fun z S3 => asB z fun k => if k = true then (fc en S3).bind fun w S4 => ofO (g' y w S4) else .ok (.bl false) S3 := by
  rfl
@[simp] theorem fNil_eq : fNil en S = .ok [] S := rfl
@[simp] theorem fCons_eq (f : FE) (g : FA) : fCons f g en S = (f en S).bind fun d S1 => (g en S1).bind fun ds S2 => .ok (d :: ds) S2 := rfl
@[simp] theorem fTup_eq (g : FA) : fTup g en S = (g en S).bind fun ds S1 => if ds.length ≤ sizeLine then .ok (.tup ds) S1 else .no := nr rfl
@[simp] theorem fLst_eq (mu : Bool) (g : FA) : fLst mu g en S = (g en S).bind fun ds S1 => if ds.length ≤ sizeLine then ofO (some (newL mu ds S1)) else .no := nr rfl
@[simp] theorem fCB_eq (g : GA) (fa : FA) : fCB g fa en S = (fa en S).bind fun ds S1 => ofO (g ds S1) := rfl
@[simp] theorem fCall_eq (F : FN) (fa : FA) : fCall F fa en S = (fa en S).bind fun ds S1 => F ds S1 := rfl
@[simp] theorem fLen_eq (F : FN) (n : Nat) (ds : List D) : FN.len F n ds S = if ds.length = n then F ds S else .no := rfl
@[simp] theorem fSl_eq (mu : Bool) (fa : FE) (fl fh : FO) : fSl mu fa fl fh en S = (fa en S).bind fun d S1 => (fl en S1).bind fun lo S2 => (fh en S2).bind fun hi S3 => ofO (gSl mu d lo hi S3) := rfl
@[simp] theorem fNoPart_eq : fNoPart en S = .ok none S := rfl
def asI (d : D) (k : Int → Rs α) : Rs α := match d with
  | .int b => k b
  | _ => .no
@[simp] theorem asI_int (b : Int) (k : Int → Rs α) : asI (.int b) k = k b := rfl
@[simp] theorem fPart_eq (f : FE) : fPart f en S = (f en S).bind fun d S1 => asI d fun i => .ok (some i) S1 := by
  rfl
@[simp] theorem fNeg_eq (f : FE) : fNeg f en S = (f en S).bind fun d S1 => asI d fun i => .ok (.int (-i)) S1 := by
  rfl
@[simp] theorem fBM_eq (T : String) (g : GM) (fo : FE) (fa : FA) : fBM T g fo fa en S = (fo en S).bind fun d S1 => if isTy S1 T d = true then (fa en S1).bind fun ds S2 => ofO (g d ds S2) else .no := rfl
@[simp] theorem fIsi_eq (T : String) (f : FE) : fIsi T f en S = (f en S).bind fun d S1 => match tyN S1 d with
  | some t => match kitB t T with
    | some b => .ok (.bl b) S1
    | none => .no
  | none => .no := rfl
@[simp] theorem kit_ii : kitB "int" "int" = some true := by decide
@[simp] theorem kit_ib : kitB "int" "bool" = some false := by decide
@[simp] theorem kit_bi : kitB "bool" "int" = some true := by decide
@[simp] theorem kit_bb : kitB "bool" "bool" = some true := by decide
@[simp] theorem kit_si : kitB "str" "int" = some false := by decide
@[simp] theorem kit_ni : kitB "NoneType" "int" = some false := by decide
@[simp] theorem kit_ti : kitB "tuple" "int" = some false := by decide
@[simp] theorem tyN_int (i : Int) : tyN S (.int i) = some "int" := rfl
@[simp] theorem tyN_bl (i : Bool) : tyN S (.bl i) = some "bool" := rfl
@[simp] theorem tyN_non : tyN S .non = some "NoneType" := rfl
@[simp] theorem tyN_str (x : Str) : tyN S (.str x) = some "str" := rfl
@[simp] theorem tyN_tup (x : List D) : tyN S (.tup x) = some "tuple" := rfl
@[simp] theorem tyN_lst (x : List D) : tyN S (.lst x) = some "list" := rfl
/-! statements -/
def seqF (r : Fl) (g : FS) : Fl := match r with
  | .nx e S => g e S
  | o => o
@[simp] theorem seq_nx (e : En) (S : So) (g : FS) : seqF (.nx e S) g = g e S := rfl
@[simp] theorem seq_rt (g : FS) : seqF (.rt d S) g = .rt d S := rfl
@[simp] theorem seq_bk (g : FS) : seqF (.bk e1 S) g = .bk e1 S := rfl
@[simp] theorem seq_ct (g : FS) : seqF (.ct e1 S) g = .ct e1 S := rfl
@[simp] theorem seq_ex (g : FS) : seqF (.ex C e1 S) g = .ex C e1 S := rfl
@[simp] theorem fSeq_eq (f g : FS) : fSeq f g en S = seqF (f en S) g := by
  unfold fSeq seqF; cases f en S <;> rfl
@[simp] theorem fNext_eq : fNext en S = .nx en S := rfl
@[simp] theorem fExpr_eq (f : FE) : fExpr f en S = fthen en (f en S) fun _ S1 => .nx en S1 := rfl
@[simp] theorem fRet_eq (f : FE) : fRet f en S = fthen en (f en S) fun d S1 => .rt d S1 := rfl
@[simp] theorem fRetN_eq : fRetN en S = .rt .non S := rfl
@[simp] theorem fBrk_eq : fBrk en S = .bk en S := rfl
@[simp] theorem fCnt_eq : fCnt en S = .ct en S := rfl
@[simp] theorem fIte_eq (c : FT) (f g : FS) : fIte c f g en S = fthen en (c en S) fun k S1 => if k = true then f en S1 else g en S1 := rfl
@[simp] theorem fRaise_eq : fRaise C en S = .ex C en S := rfl
@[simp] theorem flG_some (e : En) (S : So) : flG (some (e, S)) = .nx e S := rfl
@[simp] theorem flG_none : flG none = .no := rfl
@[simp] theorem fAsg_eq (f : FE) (g : FG) : fAsg f g en S = fthen en (f en S) fun d S1 => flG (g d en S1) := rfl
@[simp] theorem gtName_eq (i : Nat) : gtName i d en S = some (en.set i (some d), S) := rfl
@[simp] theorem gtNil_eq : gtNil [] en S = some (en, S) := rfl
@[simp] theorem gtCons_eq (g : FG) (h : FGs) (ds : List D) : gtCons g h (d :: ds) en S = (g d en S).bind fun p => h ds p.1 p.2 := by
  simp only [gtCons]; cases g d en S <;> rfl
@[simp] theorem gtTup_eq (n : Nat) (g : FGs) (ds : List D) : gtTup n g (.tup ds) en S = if ds.length = n then g ds en S else none := nr rfl
@[simp] theorem gtPair_eq (i j : Nat) (a b : D) : gtPair i j (.tup [a, b]) en S = some ((en.set i (some a)).set j (some b), S) := rfl
@[simp] theorem fPar_eq (i j : Nat) (fa : FA) : fPar i j fa en S = fthen en (fa en S) fun ds S1 => match ds with
  | [d1, d2] => .nx ((en.set i (some d1)).set j (some d2)) S1
  | _ => .no := rfl
@[simp] theorem fPar3_eq (i j l : Nat) (fa : FA) : fPar3 i j l fa en S = fthen en (fa en S) fun ds S1 => match ds with
  | [d1, d2, d3] => .nx (((en.set i (some d1)).set j (some d2)).set l (some d3)) S1
  | _ => .no := rfl
def nxO (en : En) (i : Nat) (r : Option (D × So)) : Fl := match r with
  | some (d, S) => .nx (en.set i (some d)) S
  | none => .no
@[simp] theorem nxO_some (i : Nat) : nxO en i (some (d, S)) = .nx (en.set i (some d)) S := rfl
def augO (o : Option (Option D)) (k : D → Fl) : Fl := match o with
  | some (some x) => k x
  | _ => .no
@[simp] theorem augO_some (k : D → Fl) : augO (some (some d)) k = k d := rfl
@[simp] theorem fAug_eq (i : Nat) (f : FE) (g : G2) : fAug i f g en S = augO en[i]? fun x => fthen en (f en S) fun y S1 => nxO en i (g x y S1) := by
  unfold fAug augO
  cases en[i]? with
  | none => rfl
  | some o => cases o with
    | none => rfl
    | some x => show fthen _ _ _ = fthen _ _ _; congr 1
def subO (r : Rs D) (k : D → So → Option (En × So)) : Option (En × So) := match r with
  | .ok o S => k o S
  | _ => none
@[simp] theorem subO_ok (k : D → So → Option (En × So)) : subO (.ok d S) k = k d S := rfl
@[simp] theorem gtSub_eq (fo fi : FE) (v : D) : gtSub fo fi v en S = subO (fo en S) fun o S1 => subO (fi en S1) fun i S2 => (gSet o i v S2).map fun S3 => (en, S3) := by
  unfold gtSub subO
  cases fo en S with
  | ok o S1 =>
    simp only
    cases fi en S1 with
    | ok i S2 => simp only; cases gSet o i v S2 <;> rfl
    | _ => rfl
  | _ => rfl
@[simp] theorem fTry_eq (K : PySem.W.Frag) (fb : FS) (hds : List (Addr × FS)) : fTry K fb hds en S = match fb en S with
  | .ex C e1 S1 => handle K C hds e1 S1
  | o => o := rfl
@[simp] theorem fFor_eq (m : Nat) (fi : FI) (g : FG) (b : FS) : fFor m fi g b en S = fthen en (fi en S) fun t S1 => match t with
  | .items ds => forL g b ds en S1
  | .live n => forR g b n m 0 en S1 := rfl
@[simp] theorem fiSeq_eq (f : FE) : fiSeq f en S = (f en S).bind fun d S1 => ofI (iterOf S1 d) S1 := rfl
@[simp] theorem ofI_some (t : ItD) : ofI (some t) S = .ok t S := rfl
@[simp] theorem iterOf_lst (ds : List D) : iterOf S (.lst ds) = some (.items ds) := rfl
@[simp] theorem iterOf_tup (ds : List D) : iterOf S (.tup ds) = some (.items ds) := rfl
@[simp] theorem fiRng1_eq (fa : FA) : fiRng1 fa en S = (fa en S).bind fun ds S1 => match ds with
  | [.int j] => if -(2 ^ 62) ≤ j ∧ j < 2 ^ 62 then .ok (.items (rgD 0 j.toNat)) S1 else .no
  | _ => .no := nr rfl
@[simp] theorem fiRng2_eq (fa : FA) : fiRng2 fa en S = (fa en S).bind fun ds S1 => match ds with
  | [.int i, .int j] => if -(2 ^ 62) ≤ i ∧ i < 2 ^ 62 ∧ -(2 ^ 62) ≤ j ∧ j < 2 ^ 62 then .ok (.items (rgD i (j - i).toNat)) S1 else .no
  | _ => .no := nr rfl
@[simp] theorem fiEnum_eq (fa : FA) : fiEnum fa en S = (fa en S).bind fun ds S1 => match ds with
  | [.lst xs] => .ok (.items (enumD 0 xs)) S1
  | _ => .no := rfl
@[simp] theorem fLc_eq (m : Nat) (mu : Bool) (vs : List Nat) (fi : FI) (g : FG) (c : FT) (f : FE) : fLc m mu vs fi g c f en S = (fi en S).bind fun t S1 => (noX (lcT m g c f (wipeD en vs) t S1)).bind fun ds S2 => ofO (some (newL mu ds S2)) := rfl
@[simp] theorem noX_ok (ds : List D) : noX (.ok ds S) = .ok ds S := rfl
@[simp] theorem lcT_items (m : Nat) (g : FG) (c : FT) (f : FE) (ds : List D) : lcT m g c f en (.items ds) S = lcL g c f en ds [] S := rfl
@[simp] theorem fYes_eq : fYes en S = .ok true S := rfl
@[simp] theorem wipe_nil : wipeD en [] = en := rfl
@[simp] theorem wipe_cons (v : Nat) (vs : List Nat) : wipeD en (v :: vs) = (wipeD en vs).set v none := rfl
@[simp] theorem fLstRg1_eq (mu : Bool) (f : FE) : fLstRg1 mu f en S = (f en S).bind fun d S1 => asI d fun n => if okRg 0 n = true then ofO (some (newL mu (rgD 0 (n - 0).toNat) S1)) else .no := nr rfl
@[simp] theorem fTupRg1_eq (f : FE) : fTupRg1 f en S = (f en S).bind fun d S1 => asI d fun n => if okRg 0 n = true then .ok (.tup (rgD 0 (n - 0).toNat)) S1 else .no := nr rfl
/-! operators -/
@[simp] theorem gAdd_int (mu : Bool) (i j : Int) : gAdd mu (.int i) (.int j) S = some (.int (i + j), S) := rfl
@[simp] theorem gMinus_int (i j : Int) : gMinus (.int i) (.int j) S = some (.int (i - j), S) := rfl
@[simp] theorem gI_int (g : Int → Int → Int) (i j : Int) : gI g (.int i) (.int j) S = some (.int (g i j), S) := rfl
@[simp] theorem gIc_int (c : Int → Int → Bool) (g : Int → Int → Int) (i j : Int) : gIc c g (.int i) (.int j) S = if c i j = true then some (.int (g i j), S) else none := nr rfl
@[simp] theorem gMul_int (mu : Bool) (i j : Int) : gMul mu (.int i) (.int j) S = if cMul i j = true then some (.int (i * j), S) else none := nr rfl
@[simp] theorem gFdiv_int (i j : Int) : gFdiv (.int i) (.int j) S = if (decide (0 < j) && decide (j < 1073741824)) = true then some (.int (i / j), S) else none := nr rfl
@[simp] theorem gMod_int (i j : Int) : gMod (.int i) (.int j) S = if decide (0 < j) = true then some (.int (i % j), S) else none := nr rfl
@[simp] theorem gPow_int (i j : Int) : gPow (.int i) (.int j) S = if (decide (0 ≤ j) && decide (j ≤ 1000000) && decide (i.natAbs < 2 ^ 64)) = true then some (.int (i ^ j.toNat), S) else none := nr rfl
@[simp] theorem gLt_int (i j : Int) : gLt (.int i) (.int j) S = some (.bl (decide (i < j)), S) := nr rfl
@[simp] theorem gLe_int (i j : Int) : gLe (.int i) (.int j) S = some (.bl (decide (i ≤ j)), S) := nr rfl
@[simp] theorem gGe_int (i j : Int) : gGe (.int i) (.int j) S = some (.bl (decide (j ≤ i)), S) := nr rfl
@[simp] theorem gGtA_int (i j : Int) : gGtA (.int i) (.int j) S = some (.bl (decide (j < i)), S) := nr rfl
@[simp] theorem gIs_non (d : D) : gIs d .non S = some (.bl (isNon d), S) := rfl
@[simp] theorem gIsNot_non (d : D) : gIsNot d .non S = some (.bl (!isNon d), S) := rfl
@[simp] theorem gLen_lst (xs : List D) : gLen [.lst xs] S = some (.int xs.length, S) := rfl
@[simp] theorem gLen_tup (xs : List D) : gLen [.tup xs] S = some (.int xs.length, S) := rfl
@[simp] theorem gAbs_int (i : Int) : gAbs [.int i] S = some (.int (if i < 0 then -i else i), S) := rfl
@[simp] theorem gInt_int (i : Int) : gInt [.int i] S = some (.int i, S) := rfl
@[simp] theorem gInt_bl (k : Bool) : gInt [.bl k] S = some (.int (if k then 1 else 0), S) := rfl
@[simp] theorem gMin_2 (i j : Int) : gMin [.int i, .int j] S = some (.int (if j < i then j else i), S) := rfl
@[simp] theorem gMax_2 (i j : Int) : gMax [.int i, .int j] S = some (.int (if j > i then j else i), S) := rfl
@[simp] theorem gMin_ints (ns : List Int) : gMin [.lst (ns.map D.int)] S = if ns = [] then none else some (.int (leastI ns), S) := by
  simp [gMin, lsOf, intsOf_map]
@[simp] theorem gMax_ints (ns : List Int) : gMax [.lst (ns.map D.int)] S = if ns = [] then none else some (.int (mostI ns), S) := by
  simp [gMax, lsOf, intsOf_map]
@[simp] theorem gSum_ints (ns : List Int) : gSum [.lst (ns.map D.int)] S = some (.int ns.sum, S) := by
  simp [gSum, lsOf, intsOf_map]
@[simp] theorem gSorted_ints (mu : Bool) (ns : List Int) : gSorted mu [.lst (ns.map D.int)] S = some (newL mu ((isort ns).map D.int) S) := by
  simp [gSorted, lsOf, intsOf_map]
@[simp] theorem gList_lst (mu : Bool) (xs : List D) : gList mu [.lst xs] S = some (newL mu xs S) := rfl
@[simp] theorem gList_tup (mu : Bool) (xs : List D) : gList mu [.tup xs] S = some (newL mu xs S) := rfl
@[simp] theorem gTuple_lst (xs : List D) : gTuple [.lst xs] S = some (.tup xs, S) := rfl
@[simp] theorem gTuple_tup (xs : List D) : gTuple [.tup xs] S = some (.tup xs, S) := rfl
theorem sizeLine_val : sizeLine = 16777216 := sizeLine_eq
theorem small_le {n : Nat} (h : n ≤ 16777216) : n ≤ sizeLine := by rw [sizeLine_eq]; exact h
theorem small_lt {n : Nat} (h : n < 16777216) : n < sizeLine := by rw [sizeLine_eq]; exact h
@[simp] theorem start_eq (N : List Str) (ds : List D) : startD N ds = ds.map some ++ List.replicate (N.length - ds.length) none := rfl
end eqs
end PF

namespace PF
open PySem L2
variable [Tab]
/-- the law's start: the script alone -/
theorem law_start {K : PySem.W.Frag} {F : FN} {H : Hp} {a : Addr} {ns : List Int} {m : Nat} (hF : ∀ ns : List Int, ns.length ≤ m → ∃ S, F [.scr ns] [] = .ok (.bl true) S) (hl : ns.length ≤ m) (hS : SqL K H a (ns.map V.int)) (hT : LamX.Tabs Tab.T H) :
    spD K F 1 [.ref a] H (fun v _ => v = .bl true) fun _ _ _ => False := by
  have hz : (∃ o, H a = some (.frz o (.lst (ns.map V.int)))) ∨ KL K a (ns.map V.int) ∨ H a = some (.lst (ns.map V.int)) := by
    rcases hS with (h | ⟨o, h⟩) | h
    · exact .inr (.inr h)
    · exact .inl ⟨o, h⟩
    · exact .inr (.inl h)
  refine ⟨rfl, ⟨[], fun b => b = a ∧ H a = some (.lst (ns.map V.int)), fun _ => False⟩, [], [.scr ns], ?_, ?_, ?_⟩
  · exact ⟨hT, rfl, by simp, fun n a h => by simp at h, fun b h => by rw [h.1, h.2]; exact ⟨_, rfl, (fun ps q => by cases q), (fun f q => by cases q)⟩, fun n a h => by simp at h, fun a h => h.elim, fun n a o h => by simp at h⟩
  · refine DRels.cons ?_ DRels.nil
    unfold DRel
    exact ⟨a, rfl, hz.imp id (Or.imp id fun q => ⟨⟨rfl, q⟩, q⟩)⟩
  · obtain ⟨S, h⟩ := hF ns hl
    rw [h]
    intro W' H' v _ _ r
    unfold DRel at r
    exact r
end PF

namespace PF
open PySem L2
variable [Tab]
section eqs
variable {en : En} {S J : So} {d v : D} {n k : Nat} {o : O}
/-- the list at a place of the store -/
def lstOf : Option O → Option (List D)
  | some (.lst xs) => some xs
  | _ => none
@[simp] theorem lstOf_lst (xs : List D) : lstOf (some (.lst xs)) = some xs := rfl
@[simp] theorem lsOf_ref : lsOf S (.ref n) = lstOf S[n]? := rfl
@[simp] theorem lsOf_lst (xs : List D) : lsOf S (.lst xs) = some xs := rfl
@[simp] theorem sqOf_ref : sqOf S (.ref n) = lstOf S[n]? := lsOf_ref
@[simp] theorem sqOf_lst (xs : List D) : sqOf S (.lst xs) = some xs := rfl
@[simp] theorem sqOf_tup (xs : List D) : sqOf S (.tup xs) = some xs := rfl
theorem atL_ref : atL S (.ref n) = (lstOf S[n]?).map fun xs => (n, xs) := by
  simp only [atL]
  generalize S[n]? = q
  cases q with
  | none => rfl
  | some o => cases o <;> rfl
@[simp] theorem gIx_ref (i : Int) : gIx (.ref n) (.int i) S = (lstOf S[n]?).bind fun xs => (atI xs i).map fun d => (d, S) := by
  simp only [gIx, sqOf_ref]; cases lstOf S[n]? with
  | none => rfl
  | some xs => simp only [Option.bind]; cases atI xs i <;> rfl
@[simp] theorem gIx_lst (xs : List D) (i : Int) : gIx (.lst xs) (.int i) S = (atI xs i).map fun d => (d, S) := by
  simp only [gIx, sqOf_lst]; cases atI xs i <;> rfl
@[simp] theorem gIx_tup (xs : List D) (i : Int) : gIx (.tup xs) (.int i) S = (atI xs i).map fun d => (d, S) := by
  simp only [gIx, sqOf_tup]; cases atI xs i <;> rfl
@[simp] theorem gSet_ref (i : Int) : gSet (.ref n) (.int i) v S = (lstOf S[n]?).bind fun xs => (ixN xs.length i).map fun j => S.set n (.lst (xs.set j v)) := by
  simp only [gSet, atL_ref]; cases lstOf S[n]? with
  | none => rfl
  | some xs => simp only [Option.bind, Option.map]; cases ixN xs.length i <;> rfl
@[simp] theorem gAppend_ref : gAppend (.ref n) [d] S = (lstOf S[n]?).bind fun xs => if xs.length < sizeLine then some (.non, S.set n (.lst (xs ++ [d]))) else none := by
  simp only [gAppend, atL_ref]; cases lstOf S[n]? <;> rfl
@[simp] theorem gPop_ref : gPop (.ref n) [] S = (lstOf S[n]?).bind fun xs => (xs[xs.length - 1]?).map fun y => (y, S.set n (.lst xs.dropLast)) := by
  simp only [gPop, atL_ref]; cases lstOf S[n]? with
  | none => rfl
  | some xs => simp only [Option.bind, Option.map]; cases xs[xs.length - 1]? <;> rfl
@[simp] theorem gPopAt_ref (i : Int) : gPopAt (.ref n) [.int i] S = (lstOf S[n]?).bind fun xs => if -(2 ^ 63) ≤ i ∧ i < 2 ^ 63 then (ixN xs.length i).bind fun j => (xs[j]?).map fun y => (y, S.set n (.lst (xs.eraseIdx j))) else none := by
  simp only [gPopAt, atL_ref]; cases lstOf S[n]? with
  | none => rfl
  | some xs =>
    simp only [Option.bind, Option.map]
    split
    · cases ixN xs.length i with
      | none => rfl
      | some j => simp only; cases xs[j]? <;> rfl
    · rfl
@[simp] theorem gExtend_ref : gExtend (.ref n) [d] S = (lstOf S[n]?).bind fun xs => (lsOf S d).bind fun ys => if xs.length + ys.length ≤ sizeLine then some (.non, S.set n (.lst (xs ++ ys))) else none := by
  simp only [gExtend, atL_ref]; cases lstOf S[n]? with
  | none => rfl
  | some xs => simp only [Option.bind, Option.map]; cases lsOf S d <;> rfl
@[simp] theorem isTy_ref : isTy S "list" (.ref n) = (lstOf S[n]?).isSome := by
  simp only [isTy]
  generalize S[n]? = q
  cases q with
  | none => rfl
  | some o => cases o <;> first | rfl | decide
@[simp] theorem isTy_lst (xs : List D) : isTy S "list" (.lst xs) = true := rfl
/-- how many -/
def lenOf : Option O → Option Int
  | some (.lst xs) => some xs.length
  | some (.dic xs) => some xs.length
  | _ => none
@[simp] theorem lenOf_lst (xs : List D) : lenOf (some (.lst xs)) = some (xs.length : Int) := rfl
@[simp] theorem lenOf_dic (xs : List (Key × D)) : lenOf (some (.dic xs)) = some (xs.length : Int) := rfl
@[simp] theorem gLen_ref : gLen [.ref n] S = (lenOf S[n]?).map fun i => (.int i, S) := by
  simp only [gLen]
  generalize S[n]? = q
  cases q with
  | none => rfl
  | some o => cases o <;> rfl
@[simp] theorem gTuple_ref : gTuple [.ref n] S = (lstOf S[n]?).map fun xs => (.tup xs, S) := by
  simp only [gTuple, sqOf_ref]; cases lstOf S[n]? <;> rfl
@[simp] theorem gList_ref (mu : Bool) : gList mu [.ref n] S = (lstOf S[n]?).map fun xs => newL mu xs S := by
  simp only [gList, sqOf_ref]; cases lstOf S[n]? <;> rfl
/-! places of the store -/
@[simp] theorem get_at0 : (S ++ J)[S.length]? = J[0]? := by simp [List.getElem?_append_right]
@[simp] theorem get_atk (k : Nat) : (S ++ J)[S.length + k]? = J[k]? := by
  rw [List.getElem?_append_right (by omega)]; congr 1; omega
@[simp] theorem set_at0 : (S ++ J).set S.length o = S ++ J.set 0 o := by rw [List.set_append]; simp
@[simp] theorem set_atk (k : Nat) : (S ++ J).set (S.length + k) o = S ++ J.set k o := by
  rw [List.set_append, if_neg (by omega)]; congr 2; omega
/-! == -/
theorem eqD_int (i j : Int) : eqD S (.int i) (.int j) = some (decide (i = j)) := by
  simp only [eqD, pdOf, pd0]
  rw [if_pos ⟨rfl, rfl⟩]
  simp only [PyData.eqv, Bool.beq_eq_decide_eq]
@[simp] theorem gEq_int (i j : Int) : gEq (.int i) (.int j) S = some (.bl (decide (i = j)), S) := by simp only [gEq, eqD_int]
@[simp] theorem gNe_int (i j : Int) : gNe (.int i) (.int j) S = some (.bl (!decide (i = j)), S) := by simp only [gNe, eqD_int]
theorem pds_ints : ∀ ns : List Int, pds (ns.map D.int) = some (ns.map PyData.int)
  | [] => rfl
  | n :: ns => by simp only [List.map_cons, pds, pd0, pds_ints ns]
theorem eqvAll_ints : ∀ ns ms : List Int, PyData.eqvAll (ns.map PyData.int) (ms.map PyData.int) = decide (ns = ms)
  | [], [] => rfl
  | [], m :: ms => by simp [PyData.eqvAll]
  | n :: ns, [] => by simp [PyData.eqvAll]
  | n :: ns, m :: ms => by
    simp only [List.map_cons, PyData.eqvAll, PyData.eqv, eqvAll_ints ns ms, Bool.beq_eq_decide_eq]
    by_cases h : n = m <;> by_cases h2 : ns = ms <;> simp [h, h2]
theorem canLay_ints : ∀ ns : List Int, PyData.canLayAll0 (ns.map PyData.int) = true
  | [] => rfl
  | n :: ns => by simp only [List.map_cons, PyData.canLayAll0, PyData.canLay0, canLay_ints ns, Bool.and_self]
/-! loops -/
theorem while_true {c : FT} {b : FS} {m : Nat} {e2 : En} {S1 S2 : So} (hc : c en S = .ok true S1) (hb : b en S1 = .nx e2 S2) : fWhile c b (m + 1) en S = fWhile c b m e2 S2 := by
  simp only [fWhile, hc, then_ok, if_true, hb]
theorem while_cont {c : FT} {b : FS} {m : Nat} {e2 : En} {S1 S2 : So} (hc : c en S = .ok true S1) (hb : b en S1 = .ct e2 S2) : fWhile c b (m + 1) en S = fWhile c b m e2 S2 := by
  simp only [fWhile, hc, then_ok, if_true, hb]
theorem while_brk {c : FT} {b : FS} {m : Nat} {e2 : En} {S1 S2 : So} (hc : c en S = .ok true S1) (hb : b en S1 = .bk e2 S2) : fWhile c b (m + 1) en S = .nx e2 S2 := by
  simp only [fWhile, hc, then_ok, if_true, hb]
theorem while_ret {c : FT} {b : FS} {m : Nat} {S1 S2 : So} (hc : c en S = .ok true S1) (hb : b en S1 = .rt d S2) : fWhile c b (m + 1) en S = .rt d S2 := by
  simp only [fWhile, hc, then_ok, if_true, hb]
theorem while_ex {c : FT} {b : FS} {m : Nat} {C : Addr} {e2 : En} {S1 S2 : So} (hc : c en S = .ok true S1) (hb : b en S1 = .ex C e2 S2) : fWhile c b (m + 1) en S = .ex C e2 S2 := by
  simp only [fWhile, hc, then_ok, if_true, hb]
theorem while_false {c : FT} {b : FS} {m : Nat} {S1 : So} (hc : c en S = .ok false S1) : fWhile c b (m + 1) en S = .nx en S1 := by
  simp only [fWhile, hc, then_ok, Bool.false_eq_true, if_false]
theorem for_nil {g : FG} {b : FS} : forL g b [] en S = .nx en S := rfl
theorem for_cons {g : FG} {b : FS} {ds : List D} {e1 e2 : En} {S1 S2 : So} (hg : g d en S = some (e1, S1)) (hb : b e1 S1 = .nx e2 S2) : forL g b (d :: ds) en S = forL g b ds e2 S2 := by
  simp only [forL, hg, hb]
theorem for_cont {g : FG} {b : FS} {ds : List D} {e1 e2 : En} {S1 S2 : So} (hg : g d en S = some (e1, S1)) (hb : b e1 S1 = .ct e2 S2) : forL g b (d :: ds) en S = forL g b ds e2 S2 := by
  simp only [forL, hg, hb]
theorem for_ret {g : FG} {b : FS} {ds : List D} {v : D} {e1 : En} {S1 S2 : So} (hg : g d en S = some (e1, S1)) (hb : b e1 S1 = .rt v S2) : forL g b (d :: ds) en S = .rt v S2 := by
  simp only [forL, hg, hb]
theorem for_ex {g : FG} {b : FS} {ds : List D} {C : Addr} {e1 e2 : En} {S1 S2 : So} (hg : g d en S = some (e1, S1)) (hb : b e1 S1 = .ex C e2 S2) : forL g b (d :: ds) en S = .ex C e2 S2 := by
  simp only [forL, hg, hb]
theorem for_brk {g : FG} {b : FS} {ds : List D} {e1 e2 : En} {S1 S2 : So} (hg : g d en S = some (e1, S1)) (hb : b e1 S1 = .bk e2 S2) : forL g b (d :: ds) en S = .nx e2 S2 := by
  simp only [forL, hg, hb]
end eqs
end PF

namespace PF
open PySem L2
variable [Tab]
/-! ranges whose ends are no numerals: the bounds are looked at once, at a variable -/
section rngs
variable {en : En} {S S1 : So}
theorem rng1_at {fa : FA} {j : Int} {n : Nat} (h : fa en S = .ok [.int j] S1) (hj : j = (n : Int)) (hn : n < 1000000000) : fiRng1 fa en S = .ok (.items (rgD 0 n)) S1 := by
  have hb : (-(2 ^ 62) : Int) ≤ j ∧ j < 2 ^ 62 := by omega
  have ht : j.toNat = n := by omega
  clear hj hn
  rw [fiRng1_eq, h, bind_ok]
  subst ht
  exact if_pos hb
theorem rng2_at {fa : FA} {i j : Int} {n : Nat} (h : fa en S = .ok [.int i, .int j] S1) (hi : -1000000000 ≤ i ∧ i < 1000000000) (hj : -1000000000 ≤ j ∧ j < 1000000000) (hn : (j - i).toNat = n) : fiRng2 fa en S = .ok (.items (rgD i n)) S1 := by
  have hb : (-(2 ^ 62) : Int) ≤ i ∧ i < 2 ^ 62 ∧ -(2 ^ 62) ≤ j ∧ j < 2 ^ 62 := by omega
  clear hi hj
  rw [fiRng2_eq, h, bind_ok]
  subst hn
  exact if_pos hb
theorem lrg_at {f : FE} {j : Int} {n : Nat} {mu : Bool} (h : f en S = .ok (.int j) S1) (hj : j = (n : Int)) (hn : n ≤ 1000000) : fLstRg1 mu f en S = ofO (some (newL mu (rgD 0 n) S1)) := by
  have hb : okRg 0 j = true := by
    simp only [okRg, sizeLine_val, Bool.and_eq_true, decide_eq_true_eq]
    omega
  have ht : (j - 0).toNat = n := by omega
  clear hj hn
  rw [fLstRg1_eq, h, bind_ok, asI_int]
  subst ht
  exact if_pos hb
theorem trg_at {f : FE} {j : Int} {n : Nat} (h : f en S = .ok (.int j) S1) (hj : j = (n : Int)) (hn : n ≤ 1000000) : fTupRg1 f en S = .ok (.tup (rgD 0 n)) S1 := by
  have hb : okRg 0 j = true := by
    simp only [okRg, sizeLine_val, Bool.and_eq_true, decide_eq_true_eq]
    omega
  have ht : (j - 0).toNat = n := by omega
  clear hj hn
  rw [fTupRg1_eq, h, bind_ok, asI_int]
  subst ht
  exact if_pos hb
end rngs
end PF

namespace PF
open PySem L2
variable [Tab]
/-! == of data at any depth -/
def eqq (a b : D) : Bool := match pd0 a, pd0 b with
  | some x, some y => PyData.eqv x y
  | _, _ => false
def eqqs (a b : List D) : Bool := match pds a, pds b with
  | some x, some y => PyData.eqvAll x y
  | _, _ => false
def gud (n : Nat) (d : D) : Prop := ∃ x, pd0 d = some x ∧ x.canLay0 = true ∧ x.depth ≤ n
def guds (n : Nat) (d : List D) : Prop := ∃ x, pds d = some x ∧ PyData.canLayAll0 x = true ∧ PyData.depthAll x ≤ n
theorem gud.up {n m : Nat} {d : D} (h : gud n d) (l : n ≤ m) : gud m d := by obtain ⟨x, a, b, c⟩ := h; exact ⟨x, a, b, by omega⟩
theorem gud_non (n : Nat) : gud n .non := ⟨_, rfl, rfl, Nat.zero_le _⟩
theorem gud_bl (n : Nat) (b : Bool) : gud n (.bl b) := ⟨_, rfl, rfl, Nat.zero_le _⟩
theorem gud_int (n : Nat) (i : Int) : gud n (.int i) := ⟨_, rfl, rfl, Nat.zero_le _⟩
theorem guds_nil (n : Nat) : guds n [] := ⟨_, rfl, rfl, Nat.zero_le _⟩
theorem guds_cons {n : Nat} {d : D} {ds : List D} (h : gud n d) (k : guds n ds) : guds n (d :: ds) := by
  obtain ⟨x, a, b, c⟩ := h
  obtain ⟨y, e, f, g⟩ := k
  refine ⟨x :: y, by simp only [pds, a, e], by simp only [PyData.canLayAll0, b, f, Bool.and_self], ?_⟩
  simp only [PyData.depthAll]; omega
theorem guds_all {n : Nat} : ∀ {ds : List D}, (∀ d ∈ ds, gud n d) → guds n ds
  | [], _ => guds_nil n
  | d :: ds, h => guds_cons (h d (by simp)) (guds_all fun x hx => h x (by simp [hx]))
theorem gud_tup {n : Nat} {ds : List D} (h : guds n ds) : gud (n + 1) (.tup ds) := by
  obtain ⟨y, e, f, g⟩ := h
  exact ⟨.tuple y, by simp only [pd0, e], by simp only [PyData.canLay0, f], by simp only [PyData.depth]; omega⟩
theorem gud_lst {n : Nat} {ds : List D} (h : guds n ds) : gud (n + 1) (.lst ds) := by
  obtain ⟨y, e, f, g⟩ := h
  exact ⟨.list y, by simp only [pd0, e], by simp only [PyData.canLay0, f], by simp only [PyData.depth]; omega⟩
theorem guds_ints (n : Nat) (ns : List Int) : guds n (ns.map D.int) := guds_all fun d h => by
  obtain ⟨i, _, rfl⟩ := List.mem_map.mp h
  exact gud_int n i
theorem eqq_self {n : Nat} {d : D} (h : gud n d) : eqq d d = true := by
  obtain ⟨x, a, b, _⟩ := h
  simp only [eqq, a]
  exact SeqAt.eqv_refl x b
theorem eqD_gud {n : Nat} {S : So} {a b : D} (h : gud n a) (k : gud n b) (hn : n ≤ 64) : eqD S a b = some (eqq a b) := by
  obtain ⟨x, h1, h2, h3⟩ := h
  obtain ⟨y, k1, k2, k3⟩ := k
  have p1 : pdOf S a = some x := by
    cases a with
    | ref n => simp [pd0] at h1
    | _ => simpa [pdOf] using h1
  have p2 : pdOf S b = some y := by
    cases b with
    | ref n => simp [pd0] at k1
    | _ => simpa [pdOf] using k1
  simp only [eqD, p1, p2, eqq, h1, k1]
  rw [if_pos]
  unfold SeqAt.shaped
  simp only [h2, k2, Bool.true_and, decide_eq_true_eq]
  omega
theorem pdOf_ref {S : So} {n : Nat} {ds : List D} (h : S[n]? = some (.lst ds)) : pdOf S (.ref n) = pdOf S (.lst ds) := by
  simp only [pdOf, h, pd0]
theorem eqD_refl {S : So} {n : Nat} {b : D} {ds : List D} (h : S[n]? = some (.lst ds)) : eqD S (.ref n) b = eqD S (.lst ds) b := by
  simp only [eqD, pdOf_ref h]
theorem eqD_refr {S : So} {n : Nat} {b : D} {ds : List D} (h : S[n]? = some (.lst ds)) : eqD S b (.ref n) = eqD S b (.lst ds) := by
  simp only [eqD, pdOf_ref h]
theorem gEq_gud {n : Nat} {S : So} {a b : D} (h : gud n a) (k : gud n b) (hn : n ≤ 64) : gEq a b S = some (.bl (eqq a b), S) := by
  simp only [gEq, eqD_gud h k hn]
theorem gNe_gud {n : Nat} {S : So} {a b : D} (h : gud n a) (k : gud n b) (hn : n ≤ 64) : gNe a b S = some (.bl (!eqq a b), S) := by
  simp only [gNe, eqD_gud h k hn]
theorem gEq_refl {S : So} {n : Nat} {b : D} {ds : List D} (h : S[n]? = some (.lst ds)) : gEq (.ref n) b S = gEq (.lst ds) b S := by
  simp only [gEq, eqD_refl h]
theorem gEq_refr {S : So} {n : Nat} {b : D} {ds : List D} (h : S[n]? = some (.lst ds)) : gEq b (.ref n) S = gEq b (.lst ds) S := by
  simp only [gEq, eqD_refr h]
theorem gNe_refl {S : So} {n : Nat} {b : D} {ds : List D} (h : S[n]? = some (.lst ds)) : gNe (.ref n) b S = gNe (.lst ds) b S := by
  simp only [gNe, eqD_refl h]
theorem gNe_refr {S : So} {n : Nat} {b : D} {ds : List D} (h : S[n]? = some (.lst ds)) : gNe b (.ref n) S = gNe b (.lst ds) S := by
  simp only [gNe, eqD_refr h]
theorem gNe_self {n : Nat} {S : So} {a : D} (h : gud n a) (hn : n ≤ 64) : gNe a a S = some (.bl false, S) := by
  rw [gNe_gud h h hn, eqq_self h]; rfl
theorem gEq_self {n : Nat} {S : So} {a : D} (h : gud n a) (hn : n ≤ 64) : gEq a a S = some (.bl true, S) := by
  rw [gEq_gud h h hn, eqq_self h]
/-! its value -/
theorem eqq_int (i j : Int) : eqq (.int i) (.int j) = decide (i = j) := by
  simp only [eqq, pd0, PyData.eqv, Bool.beq_eq_decide_eq]
theorem eqq_nn : eqq .non .non = true := rfl
theorem eqq_ni (i : Int) : eqq .non (.int i) = false := by simp only [eqq, pd0, PyData.eqv]
theorem eqq_in (i : Int) : eqq (.int i) .non = false := by simp only [eqq, pd0, PyData.eqv]
theorem eqq_tn (ds : List D) : eqq (.tup ds) .non = false := by
  simp only [eqq, pd0]; cases pds ds <;> simp only [PyData.eqv]
theorem eqq_nt (ds : List D) : eqq .non (.tup ds) = false := by
  simp only [eqq, pd0]; cases pds ds <;> simp only [PyData.eqv]
theorem eqq_tt (xs ys : List D) : eqq (.tup xs) (.tup ys) = eqqs xs ys := by
  simp only [eqq, eqqs, pd0]
  cases pds xs with
  | none => rfl
  | some a => cases pds ys with
    | none => rfl
    | some b => simp only [PyData.eqv]
theorem eqq_ll (xs ys : List D) : eqq (.lst xs) (.lst ys) = eqqs xs ys := by
  simp only [eqq, eqqs, pd0]
  cases pds xs with
  | none => rfl
  | some a => cases pds ys with
    | none => rfl
    | some b => simp only [PyData.eqv]
theorem eqqs_nn : eqqs [] [] = true := rfl
theorem eqqs_cc (x y : D) (xs ys : List D) : eqqs (x :: xs) (y :: ys) = (eqq x y && eqqs xs ys) := by
  simp only [eqq, eqqs, pds]
  cases pd0 x with
  | none => simp
  | some a => cases pd0 y with
    | none => cases pds xs <;> simp
    | some b => cases pds xs with
      | none => simp
      | some c => cases pds ys with
        | none => simp
        | some d => simp only [PyData.eqvAll]
theorem eqqs_ints (ns ms : List Int) : eqqs (ns.map D.int) (ms.map D.int) = decide (ns = ms) := by
  simp only [eqqs, pds_ints, eqvAll_ints]
theorem ne_ints (ns ms : List Int) (S : So) : gNe (.lst (ns.map D.int)) (.lst (ms.map D.int)) S = some (.bl (!decide (ns = ms)), S) := by
  rw [gNe_gud (gud_lst (guds_ints 0 ns)) (gud_lst (guds_ints 0 ms)) (by decide), eqq_ll, eqqs_ints]
theorem eq_ints (ns ms : List Int) (S : So) : gEq (.lst (ns.map D.int)) (.lst (ms.map D.int)) S = some (.bl (decide (ns = ms)), S) := by
  rw [gEq_gud (gud_lst (guds_ints 0 ns)) (gud_lst (guds_ints 0 ms)) (by decide), eqq_ll, eqqs_ints]
/-! ranges and slices -/
theorem rgD_cons (a : Int) (n : Nat) : rgD a (n + 1) = .int a :: rgD (a + 1) n := by
  unfold rgD
  rw [List.range_succ_eq_map]
  simp only [List.map_cons, List.map_map]
  congr 1
  · simp
  · apply List.map_congr_left
    intro i _
    simp only [Function.comp]
    congr 1
    omega
theorem cut_nat (ns : List Int) (a b : Nat) (h : a ≤ b) : cutD (ns.map D.int) (some (a : Int)) (some (b : Int)) = ((ns.drop a).take (b - a)).map D.int := by
  unfold cutD
  rw [HT.sIx_nat, HT.sIx_nat, List.length_map, ← List.map_drop, ← List.map_take]
  congr 1
  by_cases c : a ≤ ns.length
  · rw [Nat.min_eq_left c]
    by_cases c2 : b ≤ ns.length
    · rw [Nat.min_eq_left c2]
    · rw [Nat.min_eq_right (by omega), List.take_of_length_le (by simp), List.take_of_length_le (by simp; omega)]
  · rw [Nat.min_eq_right (by omega), List.drop_of_length_le (by omega), List.drop_of_length_le (by omega)]
    simp
theorem sl_nat (mu : Bool) (ns : List Int) (a b : Nat) (h : a ≤ b) (S : So) : gSl mu (.lst (ns.map D.int)) (some (a : Int)) (some (b : Int)) S = some (newL mu (((ns.drop a).take (b - a)).map D.int) S) := by
  rw [← cut_nat ns a b h]; rfl
/-! + of lists -/
theorem add_lst (mu : Bool) (xs ys : List D) (S : So) (h : xs.length + ys.length ≤ 16777216) : gAdd mu (.lst xs) (.lst ys) S = some (newL mu (xs ++ ys) S) := by
  unfold gAdd
  simp only [lsOf_lst]
  rw [if_pos (small_le h)]
end PF

namespace PF
open PySem L2
variable [Tab]
/-! ### a lambda handed to a def of the law: told(lambda: body) -/
section lam
variable {K : PySem.W.Frag} {W : Wd} {H H1 : Hp} {S : So}
theorem ext_tab (s : SRel K W H S) (e : LamX.ExtN H H1) : Ext K W H W H1 where
  m := fun _ _ h => h
  fz := fun _ h => h
  tup := fun a vs h => by
    rcases h with (h | ⟨u, h⟩) | h
    · exact .inl (.inl (e _ _ h fun ps q => by cases q))
    · exact .inl (.inr ⟨u, e _ _ h fun ps q => by cases q⟩)
    · exact .inr h
  lst := fun a vs _ h => e _ _ h fun ps q => by cases q
  scr := fun a o vs h => e _ _ h fun ps q => by cases q
  rs := fun a h => by
    obtain ⟨⟨o, h1, h2, _⟩, _⟩ := s.rsd a h
    exact ⟨h, by rw [h1]; exact e _ _ h1 h2⟩
theorem srel_tab (s : SRel K W H S) (e : LamX.ExtN H H1) (t : LamX.Tabs Tab.T H1) : SRel K W H1 S where
  tab := t
  len := s.len
  inj := s.inj
  dom := fun n a h => by
    obtain ⟨o, h1, h2, _⟩ := mu_nt (s.dom n a h)
    have := s.dom n a h
    rw [e _ _ h1 h2]; rw [h1] at this; exact this
  fzd := fun a h => by
    obtain ⟨o, h1, h2, h3⟩ := s.fzd a h
    exact ⟨o, e _ _ h1 h2, h2, h3⟩
  dis := s.dis
  rsd := fun a h => by
    obtain ⟨⟨o, h1, h2, h3⟩, r⟩ := s.rsd a h
    exact ⟨⟨o, e _ _ h1 h2, h2, h3⟩, r⟩
  obj := fun n a ob h h' => (s.obj n a ob h h').ext (ext_tab s e).toExt0 (by
    obtain ⟨o, h1, h2, _⟩ := mu_nt (s.dom n a h)
    rw [h1]; exact e _ _ h1 h2)
def tyX (K : PySem.W.Frag) (fb : FE) (E : XK) : TE := fun σ H Q => ∃ W en S, ERel K W H en σ ∧ SRel K W H S ∧ Post K DRel W H (fb en S) Q E
theorem pe_tyX {X : Cx} {e : Expr} {fb : FE} {E : XK} (h : PFE X (fun c d _ H => E c d H) e fb) : PE X e (tyX X.K fb E) := ⟨fun pins s σ H Q I ⟨W, en, S, he, hs, hp⟩ => h.run W H σ en S Q he hs hp pins s I⟩
end lam
/-- what the def tells of an exception -/
def tellX (K : PySem.W.Frag) (C : Addr) : List (Addr × D) → So → Rs D
  | [], _ => .no
  | (C1, r) :: l, S => match PySem.W.exmOne K (.ref C) (.ref C1) with
    | some true => .ok r S
    | some false => tellX K C l S
    | none => .no
def tellR (K : PySem.W.Frag) (l : List (Addr × D)) (k : D → So → Rs D) : Rs D → Rs D
  | .ok d S => k d S
  | .ex C S => tellX K C l S
  | .no => .no
def fTell (K : PySem.W.Frag) (l : List (Addr × D)) (k : D → So → Rs D) (fb : FE) : FE := fun en S => tellR K l k (fb en S)
/-- .. in the readings -/
def tellP (K : PySem.W.Frag) (cls : Value) : List (Addr × V) → VK → Hp → Prop
  | [], _, _ => False
  | (C1, r) :: l, Q, H => ∃ b, PySem.W.exmOne K cls (.ref C1) = some b ∧ (b = true → Q r H) ∧ (b = false → tellP K cls l Q H)
/-- clauses that give back a constant -/
inductive Cls (X : Cx) : List ExceptHandler → List (Addr × D) → List (Addr × V) → Prop
  | nil : Cls X [] [] []
  | str {x r : Str} {C : Addr} {j : Nat} {np p1 p2 p3 : Pos} {hds : List ExceptHandler} {l : List (Addr × D)} {lv : List (Addr × V)} (hc : Names X x (.ref C)) (t : Cls X hds l lv) :
      Cls X (.ExceptHandler (some (.Name x np)) none [.Return (some (.Constant (.str r) j p1)) p2] p3 :: hds) ((C, .str r) :: l) ((C, .str r) :: lv)
  | bl {x : Str} {r : Bool} {C : Addr} {j : Nat} {np p1 p2 p3 : Pos} {hds : List ExceptHandler} {l : List (Addr × D)} {lv : List (Addr × V)} (hc : Names X x (.ref C)) (t : Cls X hds l lv) :
      Cls X (.ExceptHandler (some (.Name x np)) none [.Return (some (.Constant (.bool r) j p1)) p2] p3 :: hds) ((C, .bl r) :: l) ((C, .bl r) :: lv)
theorem Cls.ok {X : Cx} {hds : List ExceptHandler} {l : List (Addr × D)} {lv : List (Addr × V)} (h : Cls X hds l lv) : HdsOk X hds (lv.map fun p => (Value.ref p.1, fun _ _ _ => tRet (tC p.2))) := by
  induction h with
  | nil => exact .nil
  | str hc t ih => exact .cons hc (fun a oe cls d pn _ _ => pss_one (ps_ret pe_str)) ih
  | bl hc t ih => exact .cons hc (fun a oe cls d pn _ _ => pss_one (ps_ret pe_bl)) ih
theorem Cls.post {X : Cx} {hds : List ExceptHandler} {l : List (Addr × D)} {lv : List (Addr × V)} (h : Cls X hds l lv) {K : PySem.W.Frag} {W : Wd} {H : Hp} {S : So} {C : Addr} {Q : VK} {E : XK} (s : SRel K W H S) (p : Post K DRel W H (tellX K C l S) Q E) : tellP K (.ref C) lv Q H := by
  induction h with
  | nil => exact p.elim
  | str hc t ih =>
    simp only [tellX] at p
    split at p
    · rename_i e
      exact ⟨true, e, fun _ => p.here s dstr, fun z => by cases z⟩
    · rename_i e
      exact ⟨false, e, fun z => (by cases z), fun _ => ih p⟩
    · exact p.elim
  | bl hc t ih =>
    simp only [tellX] at p
    split at p
    · rename_i e
      exact ⟨true, e, fun _ => p.here s dbl, fun z => by cases z⟩
    · rename_i e
      exact ⟨false, e, fun z => (by cases z), fun _ => ih p⟩
    · exact p.elim
theorem tell_many {K : PySem.W.Frag} {cls : Value} {d : Option Addr} {σ : St} {Q : VK} {D : Ends} (hD : D.rt = Q) : ∀ {lv : List (Addr × V)} {H : Hp}, tellP K cls lv Q H → wMany K (fun _ _ _ _ => False) D (lv.map fun p => (Value.ref p.1, fun _ _ _ => tRet (tC p.2))) cls d σ H
  | [], H, h => h
  | (C, v) :: lv, H, ⟨b, h1, h2, h3⟩ => ⟨b, h1, fun hb a _ => by show tC v σ H D.rt; rw [hD]; exact h2 hb, fun hb => tell_many hD (h3 hb)⟩
section told
variable {X : Cx} {Ng : List Str} {x a q : Str} {sg : Scope} {g : Addr} {cdg : Value} {p1 p2 p3 p4 p5 p8 : Pos} {h0 : ExceptHandler} {hds : List ExceptHandler} {l : List (Addr × D)} {lv : List (Addr × V)} {j : Nat}
open LamX in
/-- try: return a() / except ..: return .. -/
theorem told_gives (hcl : ∀ (s : Shared) (H : Hp), Cls (cxOf C8.CX0 X.prog X.w X.K X.mg X.base Ng x sg g cdg X.A X.stack s H C8.E0).nox (h0 :: hds) l lv) (hst : ∀ f : Addr, (L2.start Ng [V.ref f])[0]? = some (some (V.ref f))) :
    GivesTo X Ng x sg g cdg [.Try [.Return (some (.Call (.Name a p1) [] [] p2)) p3] (h0 :: hds) [] [] p8] a q (fun tl H Q => tl (fun cls _ H' => tellP X.K cls lv Q H') H Q) := by
  intro f c' s H Q tl act hc h
  refine ⟨_, pss_one (ps_try_many (X := (cxOf C8.CX0 X.prog X.w X.K X.mg X.base Ng x sg g cdg X.A X.stack s H C8.E0).nox) (Wout := fun _ _ _ _ => False)
      (tb := fun W D σ H => ∃ Ech : XK, (∀ cls d σ' H', Ech cls d H' → W cls d σ' H') ∧ σ[0]? = some (some (.ref f)) ∧ H c' = some (CodeO c' q) ∧ tl Ech H D.rt)
      rfl rfl LamX.takes0 (fun W pn xe tk _ => ?_) (hcl s H).ok), ?_⟩
  · refine ⟨fun pins s' σ H' D I h' => ?_⟩
    obtain ⟨Ech, hW, h1, h2, h3⟩ := h'
    have hp := act W pn xe Ech p1 p2 tk hW
    have hq := pss_one (ps_ret (pos := p3) hp)
    exact hq.run pins s' σ H' D I ⟨h1, h2, h3⟩
  · exact ⟨fun cls _ H' => tellP X.K cls lv Q H', fun cls d σ' H' z => tell_many rfl z, hst f, hc, h⟩
open LamX in
/-- try: a() / except ..: return .. / return .. -/
theorem refused_gives {r : Bool} (hcl : ∀ (s : Shared) (H : Hp), Cls (cxOf C8.CX0 X.prog X.w X.K X.mg X.base Ng x sg g cdg X.A X.stack s H C8.E0).nox (h0 :: hds) l lv) (hst : ∀ f : Addr, (L2.start Ng [V.ref f])[0]? = some (some (V.ref f))) :
    GivesTo X Ng x sg g cdg [.Try [.Expr (.Call (.Name a p1) [] [] p2) p3] (h0 :: hds) [] [] p8, .Return (some (.Constant (.bool r) j p4)) p5] a q (fun tl H Q => tl (fun cls _ H' => tellP X.K cls lv Q H') H fun _ H' => Q (.bl r) H') := by
  intro f c' s H Q tl act hc h
  refine ⟨_, pss_cons (ps_try_many (X := (cxOf C8.CX0 X.prog X.w X.K X.mg X.base Ng x sg g cdg X.A X.stack s H C8.E0).nox) (Wout := fun _ _ _ _ => False)
      (tb := fun W D σ H => ∃ Ech : XK, (∀ cls d σ' H', Ech cls d H' → W cls d σ' H') ∧ σ[0]? = some (some (.ref f)) ∧ H c' = some (CodeO c' q) ∧ tl Ech H fun _ H' => D.nx σ H')
      rfl rfl LamX.takes0 (fun W pn xe tk _ => ?_) (hcl s H).ok) (pss_one (ps_ret pe_bl)), ?_⟩
  · refine ⟨fun pins s' σ H' D I h' => ?_⟩
    obtain ⟨Ech, hW, h1, h2, h3⟩ := h'
    have hp := act W pn xe Ech p1 p2 tk hW
    have hq := pss_one (ps_expr (pos := p3) hp)
    exact hq.run pins s' σ H' D I ⟨h1, h2, h3⟩
  · exact ⟨fun cls _ H' => tellP X.K cls lv Q H', fun cls d σ' H' z => tell_many rfl z, hst f, hc, h⟩
end told
/-- the def that gets the lambda, as the top has written it -/
structure LamDef (K : PySem.W.Frag) (mg : Str → Option Value) (x a : Str) (st : Stmt) : Prop where
  ex : ∃ (g : Addr) (oc : Value) (od : Option Addr) (kV doc pm : Value) (an : Option Addr) (cdv ct : Value) (osl : Array (Option Value)), mg x = some (.ref g) ∧ PySem.W.keepIn K (.ref g) = true ∧
    K.lookup g = some ⟨oc, od, .func (PySem.W.fnOf x x (defArgs st) (defBody st) (defScope st) .none kV doc pm an cdv ct), osl⟩ ∧ PySem.W.codeIn K cdv x = true ∧ Binds K (PySem.W.fnOf x x (defArgs st) (defBody st) (defScope st) .none kV doc pm an cdv ct) [a] []
/-- the maker's code object and its table -/
structure Maker (base : Heap) (mg : Str → Option Value) (cd : Value) (q : Str) : Prop where
  ex : ∃ c P : Addr, cd = .ref c ∧ LamX.TabB base mg c P ∧ (P, q) ∈ Tab.T ∧ ∀ p ∈ Tab.T, p.1 = P → p.2 = q
section rule
variable {X : Cx} {Wx : WX} {x a : Str} {st : Stmt} {Ng : List Str} {l : List (Addr × D)} {lv : List (Addr × V)} {k : Nat} {params : Arguments} {body : Expr} {scope : Scope} {fb : FE} {p lpos pos : Pos} {p1 p2 p3 p4 p5 p8 : Pos} {h0 : ExceptHandler} {hds : List ExceptHandler} {j : Nat} {r : Bool}
open LamX in
theorem pf_told (Df : LamDef X.K X.mg x a st) (hst : defBody st = [.Try [.Return (some (.Call (.Name a p1) [] [] p2)) p3] (h0 :: hds) [] [] p8]) (Sg : FnScope Ng [a] (defScope st)) (hNg : Ng[0]? = some a) (hva : Vis (defScope st) a)
    (hcl : ∀ (g : Addr) (cdg : Value) (s : Shared) (H : Hp), Cls (cxOf C8.CX0 X.prog X.w X.K X.mg X.base Ng x (defScope st) g cdg X.A X.stack s H C8.E0).nox (h0 :: hds) l lv) (h9 : ∀ f : Addr, (L2.start Ng [V.ref f])[0]? = some (some (V.ref f)))
    (M : Maker X.base X.mg X.env.code (X.env.qual ++ "<lambda>")) (hg : Gl X x) (hr : Room (k + 2) X.A) (L : LamS X.env.scope scope) (hdef : defaultsOf params X.env = ([], []))
    (hbind : ∀ (q : Str) (cl : List (Str × Addr)) (pm cv ctv : Value), bindArgs (PySem.W.kla_fn "<lambda>" q params body scope cl pm cv ctv) ⟨[], []⟩ = pure [])
    (hbody : ∀ (A : Around) (outer : List Env) (s : Shared) (H : Hp) (E : XK) (f c' : Addr), Room k (A.deeper (lamEnv X scope s.heap.objs.size f c')) → PFE (lamCx X A outer s H E scope f c') (fun c d _ H => E c d H) body fb)
    (hdb : (x == ("__debug__" : Str)) = false := by decide) (hd : (a == ("__debug__" : Str)) = false := by decide) (hcd : (a == ("__classdict__" : Str)) = false := by decide) :
    PFE X Wx (.Call (.Name x p) [.Lambda params body scope lpos] [] pos) (fTell X.K l (fun d S => .ok d S) fb) := by
  obtain ⟨g, oc, od, kV, doc, pm, an, cdv, ct, osl, m1, m2, m3, m4, m5⟩ := Df.ex
  obtain ⟨c, P, n1, n2, n3, n4⟩ := M.ex
  rw [hst] at m3 m5
  refine ⟨fun W H σ en S Q he hs hp => PE_w (pe_lamcall (T := Tab.T) (t := fun E => tyX X.K fb E) hg m1 m2 m3 m4 m5 Sg hNg hva (told_gives (hcl g cdv) h9) n2 n1 n3 n4 hr L hdef hbind (fun A outer s H E f c' hr' => pe_tyX (hbody A outer s H E f c' hr')) hdb hd hcd) ⟨hs.tab, fun H1 eN T1 => ?_⟩⟩
  have x1 := ext_tab hs eN
  refine ⟨W, en, S, he.ext x1, srel_tab hs eN T1, ?_⟩
  have hp' := hp.later x1
  unfold fTell at hp'
  cases q : fb en S with
  | ok d S1 => rw [q] at hp'; exact hp'
  | ex C S1 =>
    rw [q] at hp'
    intro W2 H2 d x2 s2
    exact (hcl g cdv X.s_0 H).post s2 (hp'.later x2)
  | no => rw [q] at hp'; exact hp'
open LamX in
theorem pf_refused (Df : LamDef X.K X.mg x a st) (hst : defBody st = [.Try [.Expr (.Call (.Name a p1) [] [] p2) p3] (h0 :: hds) [] [] p8, .Return (some (.Constant (.bool r) j p4)) p5]) (Sg : FnScope Ng [a] (defScope st)) (hNg : Ng[0]? = some a) (hva : Vis (defScope st) a)
    (hcl : ∀ (g : Addr) (cdg : Value) (s : Shared) (H : Hp), Cls (cxOf C8.CX0 X.prog X.w X.K X.mg X.base Ng x (defScope st) g cdg X.A X.stack s H C8.E0).nox (h0 :: hds) l lv) (h9 : ∀ f : Addr, (L2.start Ng [V.ref f])[0]? = some (some (V.ref f)))
    (M : Maker X.base X.mg X.env.code (X.env.qual ++ "<lambda>")) (hg : Gl X x) (hr : Room (k + 2) X.A) (L : LamS X.env.scope scope) (hdef : defaultsOf params X.env = ([], []))
    (hbind : ∀ (q : Str) (cl : List (Str × Addr)) (pm cv ctv : Value), bindArgs (PySem.W.kla_fn "<lambda>" q params body scope cl pm cv ctv) ⟨[], []⟩ = pure [])
    (hbody : ∀ (A : Around) (outer : List Env) (s : Shared) (H : Hp) (E : XK) (f c' : Addr), Room k (A.deeper (lamEnv X scope s.heap.objs.size f c')) → PFE (lamCx X A outer s H E scope f c') (fun c d _ H => E c d H) body fb)
    (hdb : (x == ("__debug__" : Str)) = false := by decide) (hd : (a == ("__debug__" : Str)) = false := by decide) (hcd : (a == ("__classdict__" : Str)) = false := by decide) :
    PFE X Wx (.Call (.Name x p) [.Lambda params body scope lpos] [] pos) (fTell X.K l (fun _ S => .ok (.bl r) S) fb) := by
  obtain ⟨g, oc, od, kV, doc, pm, an, cdv, ct, osl, m1, m2, m3, m4, m5⟩ := Df.ex
  obtain ⟨c, P, n1, n2, n3, n4⟩ := M.ex
  rw [hst] at m3 m5
  refine ⟨fun W H σ en S Q he hs hp => PE_w (pe_lamcall (T := Tab.T) (t := fun E => tyX X.K fb E) hg m1 m2 m3 m4 m5 Sg hNg hva (refused_gives (hcl g cdv) h9) n2 n1 n3 n4 hr L hdef hbind (fun A outer s H E f c' hr' => pe_tyX (hbody A outer s H E f c' hr')) hdb hd hcd) ⟨hs.tab, fun H1 eN T1 => ?_⟩⟩
  have x1 := ext_tab hs eN
  refine ⟨W, en, S, he.ext x1, srel_tab hs eN T1, ?_⟩
  have hp' := hp.later x1
  unfold fTell at hp'
  cases q : fb en S with
  | ok d S1 =>
    rw [q] at hp'
    intro W2 H2 v x2 s2 _
    exact hp' W2 H2 (.bl r) x2 s2 dbl
  | ex C S1 =>
    rw [q] at hp'
    intro W2 H2 d x2 s2
    exact (hcl g cdv X.s_0 H).post s2 (hp'.later x2)
  | no => rw [q] at hp'; exact hp'
end rule
section fnc
variable {P : Program} {w : World} {K : PySem.W.Frag} {mg : Str → Option Value} {base : Heap}
/-- as fn_ok, the def's own code object told -/
theorem fn_okC {x qual : Str} {st : Stmt} {f : Addr} {fd : FuncData} {N ps : List Str} {k : Nat} {fb : FS} {F : FN} (F0 : Fun K x qual st f fd) (sc : FnScope N ps (defScope st))
    (hb : ∀ (A : Around) (outer : List Env) (s : Shared) (H : Hp) (E : XK), Room k (A.deeper (PyProof.Rows.envOfC qual (defScope st) s.heap.objs.size f fd.code)) → PFB (cxOf (L2.CX P w) P w K mg base N qual (defScope st) f fd.code A outer s H E) (fun c d _ H => E c d H) (defBody st) fb)
    (hF : ∀ ds S, ds.length = ps.length → clS S → clDs S.length ds → RetOk S (fb (startD N ds) S) (F ds S)) : FnOk P w K mg base (L2.CX P w) (k + 1) f fd ps (spD K F ps.length) := by
  obtain ⟨oc, od, kV, doc, pm, an, cdv, ct, osl, rfl, lk, hcd⟩ := F0.ex
  refine fn_of lk hcd sc (fun vs H Q E h => h.1) fun A outer s H vs Q E hr h => ?_
  obtain ⟨hl, W, S, ds, hs, rd, hp⟩ := h
  refine ⟨wSs _ (defBody st), pss_w, ?_⟩
  refine (hb A outer s H E hr).run W H (L2.start N vs) (startD N ds) S _ (start_rel rd) hs ?_
  exact ret_post hs (hF ds S (by rw [rd.length]; exact hl) hs.clo (by have := rd.clo; rw [hs.len] at this; exact this)) hp
end fnc
/-- the law's own table of code objects, found by the law's name -/
def tabOf (K : PySem.W.Frag) (cd : Value) : Addr := match cd with
  | .ref c => match K.lookup c with
    | some ⟨_, _, .fields vs, _⟩ => match (vs[11]? : Option Value) with
      | some (.ref P) => P
      | _ => 0
    | _ => 0
  | _ => 0
end PF

namespace PF
open PySem L2
variable [Tab]
/-! ### a op1 b op2 c op3 d -/
section chain3
variable {X : Cx} {Wx : WX} {a b c d : Expr} {fa fb fc fd : FE} {pos : Pos} {op op' op'' : CmpOp} {r r' r'' : R2} {g g' g'' : G2} {ta tb tc td : TE}
def tChain3 (r r' r'' : R2) (ta tb tc td : TE) : TE := fun σ H Q => ta σ H fun x H1 => tb σ H1 fun y H2 => r x y H2 fun z H3 => ∃ k, z = .bl k ∧
  (if k = true then tc σ H3 fun w H4 => r' y w H4 fun z' H5 => ∃ k', z' = .bl k' ∧ (if k' = true then td σ H5 fun u H6 => r'' w u H6 Q else Q (.bl false) H5) else Q (.bl false) H3)
theorem pe_chain3 (ho : OpR X (compareOp op) r) (ho' : OpR X (compareOp op') r') (ho'' : OpR X (compareOp op'') r'') (ha : PE X a ta) (hb : PE X b tb) (hc : PE X c tc) (hd : PE X d td)
    (hm : lastMarks [op, op', op''] [b, c, d] = false := by with_unfolding_all rfl) : PE X (.Compare a [op, op', op''] [b, c, d] pos) (tChain3 r r' r'' ta tb tc td) := by
  refine ⟨fun pins s σ H Q I h => ?_⟩
  refine PyProof.Rows.Compare_chain (thn (ha.run pins s σ H _ I h) fun v s1 ⟨x, H1, I1, r1, q1⟩ => PyProof.Rows.chain_link (thn (hb.run pins s1 σ H1 _ I1 q1) fun u s2 ⟨y, H2, I2, r2, q2⟩ =>
    thn (ho pins s2 σ H2 x y v u _ I2 r1 r2 q2) fun d s3 ⟨z, H3, I3, r3, k, e, q3⟩ => ?_)) hm
  subst e
  cases r3
  refine wpAny_truthy_bool ?_
  cases k with
  | false => exact PyProof.Rows.ite_ff ⟨.bl false, H3, I3, rfl, q3⟩
  | true =>
    refine PyProof.Rows.ite_tt (PyProof.Rows.chain_link (thn (hc.run pins s3 σ H3 _ I3 q3) fun w' s4 ⟨z', H4, I4, r4, q4⟩ => thn (ho' pins s4 σ H4 y z' u w' _ I4 r2 r4 q4) fun d s5 ⟨z, H5, I5, r5, k, e, q5⟩ => ?_))
    subst e
    cases r5
    refine wpAny_truthy_bool ?_
    cases k with
    | false => exact PyProof.Rows.ite_ff ⟨.bl false, H5, I5, rfl, q5⟩
    | true => exact PyProof.Rows.ite_tt (PyProof.Rows.chain_last (thn (hd.run pins s5 σ H5 _ I5 q5) fun w2 s6 ⟨z2, H6, I6, r6, q6⟩ => ho'' pins s6 σ H6 z' z2 w' w2 Q I6 r4 r6 q6))
theorem pt_chain3 (ho : OpR X (compareOp op) r) (ho' : OpR X (compareOp op') r') (ho'' : OpR X (compareOp op'') r'') (ha : PE X a ta) (hb : PE X b tb) (hc : PE X c tc) (hd : PE X d td)
    (hm : lastMarks [op, op', op''] [b, c, d] = false := by with_unfolding_all rfl) : PT X (.Compare a [op, op', op''] [b, c, d] pos) (tTest (tChain3 r r' r'' ta tb tc td)) := by
  refine ⟨fun pins s σ H Q I h => ?_⟩
  refine PyProof.Rows.isTrue_chain (thn (ha.run pins s σ H _ I h) fun v s1 ⟨x, H1, I1, r1, q1⟩ => PyProof.Rows.test_link (thn (hb.run pins s1 σ H1 _ I1 q1) fun u s2 ⟨y, H2, I2, r2, q2⟩ =>
    thn (ho pins s2 σ H2 x y v u _ I2 r1 r2 q2) fun d s3 ⟨z, H3, I3, r3, k, e, q3⟩ => ?_)) hm
  subst e
  cases r3
  refine wpAny_truthy_bool ?_
  cases k with
  | false =>
    obtain ⟨k', e', q'⟩ := q3
    cases e'
    exact PyProof.Rows.ite_ff ⟨H3, I3, q'⟩
  | true =>
    refine PyProof.Rows.ite_tt (PyProof.Rows.test_link (thn (hc.run pins s3 σ H3 _ I3 q3) fun w' s4 ⟨z', H4, I4, r4, q4⟩ => thn (ho' pins s4 σ H4 y z' u w' _ I4 r2 r4 q4) fun d s5 ⟨z, H5, I5, r5, k, e, q5⟩ => ?_))
    subst e
    cases r5
    refine wpAny_truthy_bool ?_
    cases k with
    | false =>
      obtain ⟨k', e', q'⟩ := q5
      cases e'
      exact PyProof.Rows.ite_ff ⟨H5, I5, q'⟩
    | true =>
      refine PyProof.Rows.ite_tt (PyProof.Rows.test_last (thn (hd.run pins s5 σ H5 _ I5 q5) fun w2 s6 ⟨z2, H6, I6, r6, q6⟩ => thn (ho'' pins s6 σ H6 z' z2 w' w2 _ I6 r4 r6 q6) fun d' s7 ⟨z3, H7, I7, r7, k2, e2, q7⟩ => ?_))
      subst e2
      cases r7
      exact wpAny_truthy_bool ⟨H7, I7, q7⟩
def fChain3 (g g' g'' : G2) (fa fb fc fd : FE) : FE := fun en S => (fa en S).bind fun x S1 => (fb en S1).bind fun y S2 => (ofO (g x y S2)).bind fun z S3 => match z with
  | .bl k => if k = true then (fc en S3).bind fun w S4 => (ofO (g' y w S4)).bind fun z' S5 => match z' with
    | .bl k' => if k' = true then (fd en S5).bind fun u S6 => ofO (g'' w u S6) else .ok (.bl false) S5
    | _ => .no
    else .ok (.bl false) S3
  | _ => .no
theorem chain3_run (hg : OpD X.K r g) (hg' : OpD X.K r' g') (hg'' : OpD X.K r'' g'') (ha : PFE X Wx a fa) (hb : PFE X Wx b fb) (hc : PFE X Wx c fc) (hd : PFE X Wx d fd) {W : Wd} {H : Hp} {σ : St} {en : En} {S : So} {Q : VK} (he : ERel X.K W H en σ) (hs : SRel X.K W H S)
    (hp : Post X.K DRel W H (fChain3 g g' g'' fa fb fc fd en S) Q (Wish Wx σ)) : tChain3 r r' r'' (wE X a) (wE X b) (wE X c) (wE X d) σ H Q := by
  refine ha.run W H σ en S _ he hs (Post.bind hp fun d1 S1 W1 H1 x e1 s1 r1 p1 => ?_)
  refine hb.run W1 H1 σ en S1 _ (he.ext e1) s1 (Post.bind p1 fun d2 S2 W2 H2 y e2 s2 r2 p2 => ?_)
  refine hg W2 H2 S2 x y d1 d2 _ s2 (r1.ext e2) r2 (postO (Post.bind p2 fun d3 S3 W3 H3 z e3 s3 r3 p3 => ?_))
  cases d3 with
  | bl k =>
    unfold DRel at r3; subst r3
    refine ⟨k, rfl, ?_⟩
    cases k with
    | true =>
      refine iteT (hc.run W3 H3 σ en S3 _ (he.ext ((e1.trans e2).trans e3)) s3 (Post.bind p3 fun d4 S4 W4 H4 w e4 s4 r4 p4 => ?_))
      refine hg' W4 H4 S4 y w d2 d4 _ s4 (r2.ext (e3.trans e4)) r4 (postO (Post.bind p4 fun d5 S5 W5 H5 z' e5 s5 r5 p5 => ?_))
      cases d5 with
      | bl k' =>
        unfold DRel at r5; subst r5
        refine ⟨k', rfl, ?_⟩
        cases k' with
        | true =>
          refine iteT (hd.run W5 H5 σ en S5 _ (he.ext ((((e1.trans e2).trans e3).trans e4).trans e5)) s5 (Post.bind p5 fun d6 S6 W6 H6 u e6 s6 r6 p6 => ?_))
          exact hg'' W6 H6 S6 w u d4 d6 Q s6 (r4.ext (e5.trans e6)) r6 (postO p6)
        | false => exact iteF (p5.here s5 (by unfold DRel; rfl))
      | _ => exact p5.elim
    | false => exact iteF (p3.here s3 (by unfold DRel; rfl))
  | _ => exact p3.elim
theorem pf_chain3 (ho : OpR X (compareOp op) r) (hg : OpD X.K r g) (ho' : OpR X (compareOp op') r') (hg' : OpD X.K r' g') (ho'' : OpR X (compareOp op'') r'') (hg'' : OpD X.K r'' g'') (ha : PFE X Wx a fa) (hb : PFE X Wx b fb) (hc : PFE X Wx c fc) (hd : PFE X Wx d fd)
    (hm : lastMarks [op, op', op''] [b, c, d] = false := by with_unfolding_all rfl) : PFE X Wx (.Compare a [op, op', op''] [b, c, d] pos) (fChain3 g g' g'' fa fb fc fd) :=
  ⟨fun W H σ en S Q he hs hp => PE_w (pe_chain3 ho ho' ho'' pe_w pe_w pe_w pe_w hm) (chain3_run hg hg' hg'' ha hb hc hd he hs hp)⟩
theorem pft_chain3 (ho : OpR X (compareOp op) r) (hg : OpD X.K r g) (ho' : OpR X (compareOp op') r') (hg' : OpD X.K r' g') (ho'' : OpR X (compareOp op'') r'') (hg'' : OpD X.K r'' g'') (ha : PFE X Wx a fa) (hb : PFE X Wx b fb) (hc : PFE X Wx c fc) (hd : PFE X Wx d fd)
    (hm : lastMarks [op, op', op''] [b, c, d] = false := by with_unfolding_all rfl) : PFT X Wx (.Compare a [op, op', op''] [b, c, d] pos) (fTst (fChain3 g g' g'' fa fb fc fd)) := by
  refine ⟨fun W H σ en S Q he hs hp => PT_w (pt_chain3 ho ho' ho'' pe_w pe_w pe_w pe_w hm) ?_⟩
  have hp' := Post.bind (R := DRel) (Q1 := fun x H' => ∃ k, x = .bl k ∧ Q k H') hp fun d S1 W1 H1 x e1 s1 r1 p1 => by
    cases d with
    | bl b => unfold DRel at r1; exact ⟨b, r1, p1.here s1 rfl⟩
    | _ => exact p1.elim
  exact chain3_run hg hg' hg'' ha hb hc hd he hs hp'
@[simp] theorem fChain3_eq {en : En} {S : So} (g g' g'' : G2) (fa fb fc fd : FE) : fChain3 g g' g'' fa fb fc fd en S = (fa en S).bind fun x S1 => (fb en S1).bind fun y S2 => (ofO (g x y S2)).bind fun z S3 => asB z fun k => if k = true then (fc en S3).bind fun w S4 => (ofO (g' y w S4)).bind fun z' S5 => asB z' fun k' => if k' = true then (fd en S5).bind fun u S6 => ofO (g'' w u S6) else .ok (.bl false) S5 else .ok (.bl false) S3 := by
  rfl
/-! told -/
@[simp] theorem fTell_eq {en : En} {S : So} (K : PySem.W.Frag) (l : List (Addr × D)) (k : D → So → Rs D) (fb : FE) : fTell K l k fb en S = tellR K l k (fb en S) := rfl
@[simp] theorem tellR_ok {S : So} (K : PySem.W.Frag) (l : List (Addr × D)) (k : D → So → Rs D) (d : D) : tellR K l k (.ok d S) = k d S := rfl
@[simp] theorem tellR_ex {S : So} (K : PySem.W.Frag) (l : List (Addr × D)) (k : D → So → Rs D) (C : Addr) : tellR K l k (.ex C S) = tellX K C l S := rfl
theorem tellX_hit {K : PySem.W.Frag} {C C1 : Addr} {r : D} {l : List (Addr × D)} {S : So} (h : PySem.W.exmOne K (.ref C) (.ref C1) = some true) : tellX K C ((C1, r) :: l) S = .ok r S := by
  simp only [tellX, h]
theorem tellX_miss {K : PySem.W.Frag} {C C1 : Addr} {r : D} {l : List (Addr × D)} {S : So} (h : PySem.W.exmOne K (.ref C) (.ref C1) = some false) : tellX K C ((C1, r) :: l) S = tellX K C l S := by
  simp only [tellX, h]
end chain3
theorem aug_mul {en : En} {S S1 : So} {i : Nat} {f : FE} {a b : Int} (h : en[i]? = some (some (.int a))) (hf : f en S = .ok (.int b) S1) (hc : cMul a b = true) : fAug i f (gIc cMul fun i j => i * j) en S = .nx (en.set i (some (.int (a * b)))) S1 := by
  rw [fAug_eq, h, augO_some, hf, then_ok, gIc_int, if_pos hc, nxO_some]
theorem gMul_at {a b : Int} {S : So} (mu : Bool) (h : cMul a b = true) : gMul mu (.int a) (.int b) S = some (.int (a * b), S) := by
  rw [gMul_int, if_pos h]
theorem mul_at {en : En} {S S1 S2 : So} {fa fb : FE} {a b : Int} (mu : Bool) (ha : fa en S = .ok (.int a) S1) (hb : fb en S1 = .ok (.int b) S2) (h : cMul a b = true) : fOp (gMul mu) fa fb en S = .ok (.int (a * b)) S2 := by
  rw [fOp_eq, ha, bind_ok, hb, bind_ok, gMul_at mu h, ofO_some]
/-- a comprehension over fixed items -/
theorem lc_at {m : Nat} {mu : Bool} {vs : List Nat} {fi : FI} {g : FG} {c : FT} {f : FE} {en : En} {S S1 S2 : So} {ds out : List D} (hi : fi en S = .ok (.items ds) S1) (hl : lcL g c f (wipeD en vs) ds [] S1 = .ok out S2) :
    fLc m mu vs fi g c f en S = .ok (newL mu out S2).1 (newL mu out S2).2 := by
  rw [fLc_eq, hi, bind_ok, lcT_items, hl, noX_ok, bind_ok]
  rfl
end PF

namespace PF
open PySem L2
variable [Tab]
/-! comprehensions whose pieces leave the store alone -/
theorem lcL_pure {i : Nat} {f : FE} {en : En} {S : So} (v : D → D) : ∀ (ds acc : List D), (∀ d ∈ ds, f (en.set i (some d)) S = .ok (v d) S) → acc.length + ds.length < 16777216 → lcL (gtName i) fYes f en ds acc S = .ok (acc ++ ds.map v) S
  | [], acc, _, _ => by simp [lcL]
  | d :: ds, acc, h, hl => by
    simp only [List.length_cons] at hl
    have ha : acc.length < sizeLine := small_lt (by omega)
    have ih := lcL_pure v ds (acc ++ [v d]) (fun x hx => h x (by simp [hx])) (by simp; omega)
    have h1 := h d (by simp)
    simp only [lcL, gtName_eq, fYes_eq, bind_ok, if_true, h1, ha, ih]
    simp
theorem lcL_filt {i : Nat} {f : FE} {c : FT} {en : En} {S : So} (p : D → Bool) (v : D → D) : ∀ (ds acc : List D), (∀ d ∈ ds, c (en.set i (some d)) S = .ok (p d) S) → (∀ d ∈ ds, p d = true → f (en.set i (some d)) S = .ok (v d) S) → acc.length + ds.length < 16777216 → lcL (gtName i) c f en ds acc S = .ok (acc ++ (ds.filter p).map v) S
  | [], acc, _, _, _ => by simp [lcL]
  | d :: ds, acc, hc, h, hl => by
    simp only [List.length_cons] at hl
    have ha : acc.length < sizeLine := small_lt (by omega)
    have h0 := hc d (by simp)
    cases hp : p d with
    | true =>
      have ih := lcL_filt p v ds (acc ++ [v d]) (fun x hx => hc x (by simp [hx])) (fun x hx => h x (by simp [hx])) (by simp; omega)
      have h1 := h d (by simp) hp
      rw [hp] at h0
      simp only [lcL, gtName_eq, bind_ok, if_true, h0, h1, ha, ih]
      simp [hp]
    | false =>
      have ih := lcL_filt p v ds acc (fun x hx => hc x (by simp [hx])) (fun x hx => h x (by simp [hx])) (by omega)
      rw [hp] at h0
      simp only [lcL, gtName_eq, bind_ok, h0, Bool.false_eq_true, if_false, ih]
      simp [hp]
theorem lcR_pure {i n : Nat} {f : FE} {en : En} {S : So} {ds : List D} (v : D → D) (hS : S[n]? = some (.lst ds)) (h : ∀ d ∈ ds, f (en.set i (some d)) S = .ok (v d) S) : ∀ (m k j : Nat) (acc : List D), k + j = ds.length → j < m → acc.length + j < 16777216 →
    lcR (gtName i) fYes f en n m k acc S = .ok (acc ++ (ds.drop k).map v) S
  | 0, k, j, acc, _, h2, _ => by omega
  | m + 1, k, 0, acc, h1, h2, h3 => by
    have e : ds[k]? = none := List.getElem?_eq_none (by omega)
    simp only [lcR, hS, e]
    rw [List.drop_of_length_le (by omega)]
    simp
  | m + 1, k, j + 1, acc, h1, h2, h3 => by
    have hk : k < ds.length := by omega
    have e : ds[k]? = some ds[k] := List.getElem?_eq_getElem hk
    have ha : acc.length < sizeLine := small_lt (by omega)
    have hd := h ds[k] (List.getElem_mem hk)
    have ih := lcR_pure v hS h m (k + 1) j (acc ++ [v ds[k]]) (by omega) (by omega) (by simp; omega)
    simp only [lcR, hS, e, gtName_eq, fYes_eq, bind_ok, if_true, hd, ha, ih]
    rw [List.drop_eq_getElem_cons hk, List.map_cons, List.append_assoc]
    rfl
/-- a comprehension over a list of the store -/
theorem lc_live {m : Nat} {mu : Bool} {vs : List Nat} {fi : FI} {g : FG} {c : FT} {f : FE} {en : En} {S S1 S2 : So} {n : Nat} {out : List D} (hi : fi en S = .ok (.live n) S1) (hl : lcR g c f (wipeD en vs) n m 0 [] S1 = .ok out S2) :
    fLc m mu vs fi g c f en S = .ok (newL mu out S2).1 (newL mu out S2).2 := by
  rw [fLc_eq, hi, bind_ok]
  show (noX (lcR g c f (wipeD en vs) n m 0 [] S1)).bind _ = _
  rw [hl, noX_ok, bind_ok]
  rfl
theorem mul_rep (mu : Bool) (xs : List D) (n : Nat) (S : So) (h : xs.length * n ≤ 16777216) : gMul mu (.lst xs) (.int (n : Int)) S = if (n : Int) < 9223372036854775808 then some (newL mu (List.replicate n xs).flatten S) else none := by
  unfold gMul
  simp only [lsOf_lst]
  rw [sizeLine_val]
  have h1 : ((2 : Int) ^ 63) = 9223372036854775808 := by decide
  rw [h1]
  have h0 : (-9223372036854775808 : Int) ≤ (n : Int) := by omega
  simp only [Int.toNat_natCast, h, h0, true_and, and_true]
end PF

namespace PF
open PySem L2
variable [Tab]
/-! ### a def by its own body -/
def runF (N : List Str) (f : FS) : FN := fun ds S => match f (startD N ds) S with
  | .rt d S' => .ok d S'
  | .nx _ S' => .ok .non S'
  | .ex C _ S' => .ex C S'
  | _ => .no
theorem run_post {K : PySem.W.Frag} {W : Wd} {H : Hp} {S : So} {N : List Str} {f : FS} {ds : List D} {Q : VK} {E : XK} (p : Post K DRel W H (runF N f ds S) Q E) :
    PostS K W H (f (startD N ds) S) { nx := fun _ H' => Q .non H', rt := Q } (fun c d _ H => E c d H) := by
  unfold runF at p
  cases e : f (startD N ds) S with
  | rt d S' => rw [e] at p; exact p
  | nx e' S' => rw [e] at p; exact fun W' H' σ x s _ => p W' H' .non x s dnon
  | ex C e' S' => rw [e] at p; exact fun W' H' σ d x s _ => p W' H' d x s
  | bk _ _ => rw [e] at p; exact p.elim
  | ct _ _ => rw [e] at p; exact p.elim
  | no => rw [e] at p; exact p.elim
section fns
variable {P : Program} {w : World} {K : PySem.W.Frag} {mg : Str → Option Value} {base : Heap}
theorem fn_run {x qual : Str} {st : Stmt} {f : Addr} {fd : FuncData} {N ps : List Str} {k : Nat} {fb : FS} (F0 : Fun K x qual st f fd) (sc : FnScope N ps (defScope st))
    (hb : ∀ (cdv : Value) (A : Around) (outer : List Env) (s : Shared) (H : Hp) (E : XK), Room k (A.deeper (PyProof.Rows.envOfC qual (defScope st) s.heap.objs.size f cdv)) → PFB (cxOf (L2.CX P w) P w K mg base N qual (defScope st) f cdv A outer s H E) (fun c d _ H => E c d H) (defBody st) fb) : FnOk P w K mg base (L2.CX P w) (k + 1) f fd ps (spD K (runF N fb) ps.length) := by
  refine F0.okX sc (fun vs H Q E h => h.1) (fun cdv A outer s H vs Q E hr h => ?_)
  obtain ⟨hl, W, S, ds, hs, rd, hp⟩ := h
  refine ⟨wSs _ (defBody st), pss_w, ?_⟩
  exact (hb cdv A outer s H E hr).run W H (L2.start N vs) (startD N ds) S _ (start_rel rd) hs (run_post hp)
theorem fn_runC {x qual : Str} {st : Stmt} {f : Addr} {fd : FuncData} {N ps : List Str} {k : Nat} {fb : FS} (F0 : Fun K x qual st f fd) (sc : FnScope N ps (defScope st))
    (hb : ∀ (A : Around) (outer : List Env) (s : Shared) (H : Hp) (E : XK), Room k (A.deeper (PyProof.Rows.envOfC qual (defScope st) s.heap.objs.size f fd.code)) → PFB (cxOf (L2.CX P w) P w K mg base N qual (defScope st) f fd.code A outer s H E) (fun c d _ H => E c d H) (defBody st) fb) : FnOk P w K mg base (L2.CX P w) (k + 1) f fd ps (spD K (runF N fb) ps.length) := by
  obtain ⟨oc, od, kV, doc, pm, an, cdv, ct, osl, rfl, lk, hcd⟩ := F0.ex
  refine fn_of lk hcd sc (fun vs H Q E h => h.1) fun A outer s H vs Q E hr h => ?_
  obtain ⟨hl, W, S, ds, hs, rd, hp⟩ := h
  refine ⟨wSs _ (defBody st), pss_w, ?_⟩
  exact (hb A outer s H E hr).run W H (L2.start N vs) (startD N ds) S _ (start_rel rd) hs (run_post hp)
end fns
end PF

namespace PF
open PySem L2
variable [Tab]
/-! ### instances -/
section flds
variable {K : PySem.W.Frag} {W W' : Wd} {H H' : Hp}
def putD (f : Str) (v : D) : List (Str × D) → List (Str × D)
  | [] => [(f, v)]
  | (g, x) :: r => if g = f then (g, v) :: r else (g, x) :: putD f v r
theorem FRel.look {f : Str} {d : D} : ∀ {fs : List (Str × D)} {vs : List (Str × V)}, FRel K W H fs vs → fs.lookup f = some d → ∃ v, vs.lookup f = some v ∧ DRel K W H d v
  | [], vs, h, q => by cases q
  | (k, x) :: fs, vs, h, q => by
    obtain ⟨v, r, rfl, h1, h2⟩ := h
    simp only [List.lookup] at q ⊢
    cases e : f == k with
    | true => rw [e] at q; cases q; exact ⟨v, rfl, h1⟩
    | false => rw [e] at q; exact FRel.look h2 q
theorem FRel.miss {f : Str} : ∀ {fs : List (Str × D)} {vs : List (Str × V)}, FRel K W H fs vs → fs.lookup f = none → vs.lookup f = none
  | [], vs, h, q => by cases h; rfl
  | (k, x) :: fs, vs, h, q => by
    obtain ⟨v, r, rfl, h1, h2⟩ := h
    simp only [List.lookup] at q ⊢
    cases e : f == k with
    | true => rw [e] at q; cases q
    | false => rw [e] at q; exact FRel.miss h2 q
theorem FRel.length : ∀ {fs : List (Str × D)} {vs : List (Str × V)}, FRel K W H fs vs → vs.length = fs.length
  | [], vs, h => by cases h; rfl
  | (k, x) :: fs, vs, h => by
    obtain ⟨v, r, rfl, h1, h2⟩ := h
    simp [FRel.length h2]
theorem FRel.put {f : Str} {d : D} {v : V} (hd : DRel K W H d v) : ∀ {fs : List (Str × D)} {vs : List (Str × V)}, FRel K W H fs vs → FRel K W H (putD f d fs) (putF f v vs)
  | [], vs, h => by cases h; exact ⟨v, [], rfl, hd, rfl⟩
  | (k, x) :: fs, vs, h => by
    obtain ⟨y, r, rfl, h1, h2⟩ := h
    by_cases q : k = f
    · simp only [putD, putF, if_pos q]; exact ⟨v, r, rfl, hd, h2⟩
    · simp only [putD, putF, if_neg q]; exact ⟨y, _, rfl, h1, FRel.put hd h2⟩
end flds
/-- the instance at a reference -/
def insAt (S : So) (C : Addr) (d : D) : Option (Nat × List (Str × D)) := match d with
  | .ref n => match S[n]? with
    | some (.ins C' fs) => if C' = C then some (n, fs) else none
    | _ => none
  | _ => none
theorem ins_at {K : PySem.W.Frag} {W : Wd} {H : Hp} {S : So} {C : Addr} {d : D} {v : V} {n : Nat} {fs : List (Str × D)} (s : SRel K W H S) (r : DRel K W H d v) (h : insAt S C d = some (n, fs)) :
    d = .ref n ∧ S[n]? = some (.ins C fs) ∧ ∃ a dx vs, v = .ref a ∧ W.m[n]? = some a ∧ H a = some (.ins C dx vs) ∧ FRel K W H fs vs := by
  unfold insAt at h
  split at h
  · rename_i m
    split at h
    · rename_i C' fs' hm
      split at h
      · rename_i hc
        cases h
        subst hc
        unfold DRel at r
        obtain ⟨a, rfl, ha⟩ := r
        obtain ⟨dx, vs, h1, h2⟩ := s.obj n a _ ha hm
        exact ⟨rfl, hm, a, dx, vs, rfl, ha, h1, h2⟩
      · cases h
    · cases h
  · cases h
section rules
variable {X : Cx} {Wx : WX} {C : Addr} {f : Str} {o e value : Expr} {fo fv fe : FE} {pos pos' tpos : Pos}
def fFld (C : Addr) (f : Str) (fo : FE) : FE := fun en S => (fo en S).bind fun d S1 => match insAt S1 C d with
  | some (_, fs) => match fs.lookup f with
    | some v => .ok v S1
    | none => .no
  | none => .no
theorem pf_fld (c : L2.Cls X.K C) (na : NoAttr X.K C f) (ho : PFE X Wx o fo) (hb : attributeBase o f X.env (eval o X.env) = eval o X.env := by rfl) : PFE X Wx (.Attribute o f pos) (fFld C f fo) := by
  refine ⟨fun W H σ en S Q he hs hp => PE_w (pe_fld pe_w hb) (ho.run W H σ en S _ he hs (Post.bind hp fun d S1 W1 H1 x e1 s1 r1 p1 => ?_))⟩
  split at p1
  · rename_i n fs hi
    obtain ⟨rfl, hn, a, dx, vs, rfl, ha, h1, h2⟩ := ins_at s1 r1 hi
    split at p1
    · rename_i v hv
      obtain ⟨u, hu, ru⟩ := h2.look hv
      exact ⟨a, C, dx, vs, u, rfl, h1, c, na, hu, Post.here p1 s1 ru⟩
    · exact p1.elim
  · exact p1.elim
def fSetF (C : Addr) (f : Str) (fo fv : FE) : FS := fun en S => fthen en (fv en S) fun y S1 => fthen en (fo en S1) fun d S2 => match insAt S2 C d with
  | some (n, fs) => if fs.length < 1000 then .nx en (S2.set n (.ins C (putD f y fs))) else .no
  | none => .no
theorem set_ins {K : PySem.W.Frag} {W : Wd} {H : Hp} {S : So} {n : Nat} {a dx : Addr} {fs : List (Str × D)} {vs : List (Str × V)} {y : D} {u : V} (s : SRel K W H S) (ha : W.m[n]? = some a) (h2 : FRel K W H fs vs) (ry : DRel K W H y u) :
    SRel K W (L2.upd H a (.ins C dx (putF f u vs))) (S.set n (.ins C (putD f y fs))) :=
  s.upd ha trivial ⟨dx, _, upd_same, (h2.ext0 (ext_upd0 s ha)).put (ry.ext0 (ext_upd0 s ha))⟩
theorem pfs_fld (c : L2.Cls X.K C) (na : NoAttr X.K C f) (ho : PFE X Wx o fo) (hv : PFE X Wx value fv) (hsw : swapsWith value (some (.Attribute o f pos')) pos.line X.env = pure false := by rfl) : PFS X Wx (.Assign [.Attribute o f pos'] value pos) (fSetF C f fo fv) := by
  refine ⟨fun W H σ en S Z he hs hp => PS_w (ps_fld pe_w pe_w hsw) (hv.run W H σ en S _ he hs (post_then he hp fun y S1 W1 H1 u e1 s1 r1 p1 => ?_))⟩
  refine ho.run W1 H1 σ en S1 _ (he.ext e1) s1 (post_then (he.ext e1) p1 fun d S2 W2 H2 x e2 s2 r2 p2 => ?_)
  split at p2
  · rename_i n fs hi
    obtain ⟨rfl, hn, a, dx, vs, rfl, ha, h1, h2⟩ := ins_at s2 r2 hi
    split at p2
    · rename_i hl
      exact ⟨a, C, dx, vs, rfl, h1, c, na, by rw [h2.length]; exact hl, p2 W2 _ σ (ext_upd s2 ha) (set_ins s2 ha h2 (r1.ext e2)) (((he.ext e1).ext e2).ext (ext_upd s2 ha))⟩
    · exact p2.elim
  · exact p2.elim
def fAugF (C : Addr) (f : Str) (fo fv : FE) (g : G2) : FS := fun en S => fthen en (fo en S) fun d S1 => match insAt S1 C d with
  | some (_, fs) => match fs.lookup f with
    | some v => fthen en (fv en S1) fun y S2 => match g v y S2 with
      | some (z, S3) => match insAt S3 C d with
        | some (n, fs') => if fs'.length < 1000 then .nx en (S3.set n (.ins C (putD f z fs'))) else .no
        | none => .no
      | none => .no
    | none => .no
  | none => .no
theorem pfs_fldaug {op : Operator} {r : R2} {g : G2} (c : L2.Cls X.K C) (na : NoAttr X.K C f) (hop : OpR X (inplaceOp op) r) (hg : OpD X.K r g) (ho : PFE X Wx o fo) (hv : PFE X Wx value fv) : PFS X Wx (.AugAssign (.Attribute o f tpos) op value pos) (fAugF C f fo fv g) := by
  refine ⟨fun W H σ en S Z he hs hp => PS_w (ps_fldaug (rd := r) pe_w pe_w hop) (ho.run W H σ en S _ he hs (post_then he hp fun d S1 W1 H1 x e1 s1 r1 p1 => ?_))⟩
  split at p1
  · rename_i n fs hi
    obtain ⟨rfl, hn, a, dx, vs, rfl, ha, h1, h2⟩ := ins_at s1 r1 hi
    split at p1
    · rename_i v hlv
      obtain ⟨u, hu, ru⟩ := h2.look hlv
      refine ⟨a, C, dx, vs, u, rfl, h1, c, na, hu, hv.run W1 H1 σ en S1 _ (he.ext e1) s1 (post_then (he.ext e1) p1 fun y S2 W2 H2 w e2 s2 r2 p2 => ?_)⟩
      refine hg W2 H2 S2 u w v y _ s2 (ru.ext e2) r2 ?_
      cases q : g v y S2 with
      | none => rw [q] at p2; exact p2.elim
      | some pr =>
        obtain ⟨z, S3⟩ := pr
        rw [q] at p2
        intro W3 H3 t e3 s3 r3
        dsimp only at p2
        split at p2
        · rename_i n' fs' hi'
          obtain ⟨q1, hn', a', dx', vs', q2, ha', h1', h2'⟩ := ins_at s3 (r1.ext (e2.trans e3)) hi'
          cases q2
          split at p2
          · rename_i hl
            have p3 := p2.later e3
            exact ⟨dx', vs', h1', by rw [h2'.length]; exact hl, p3 W3 _ σ (ext_upd s3 ha') (set_ins s3 ha' h2' r3) ((((he.ext e1).ext e2).ext e3).ext (ext_upd s3 ha'))⟩
          · exact p2.elim
        · exact p2.elim
    · exact p1.elim
  · exact p1.elim
end rules
end PF

namespace PF
open PySem L2
variable [Tab]
/-! ### methods, and making instances, with what is raised wished for at the caller's slots -/
section slots
variable {X : Cx} {CX : CXT} {k : Nat} {f C : Addr} {fd : FuncData} {ps : List Str} {sp : Sp} {dvs : List V} {ds : List Value} {E : St → XK} {x m : Str} {p pos apos : Pos} {e o : Expr} {es : List Expr} {ta : TE} {t : TA}
def tMethS (C : Addr) (m : Str) (sp : Sp) (dvs : List V) (E : St → XK) (ta : TE) (t : TA) : TE := fun σ H Q => ta σ H fun x H1 => ∃ a dx fs, x = .ref a ∧ H1 a = some (.ins C dx fs) ∧ fs.lookup m = none ∧
  t σ H1 fun vs H2 => sp (x :: (vs ++ dvs)) H2 Q (E σ)
theorem pe_methS {pl : Sem Bool} (he : PE X o ta) (c : L2.Cls X.K C) (hm : Meth X.K C m f) (F : FnOk X.prog X.w X.K X.mg X.base CX k f fd ps sp) (hr : Room k X.A) (hb : Binds X.K fd ps ds) (hd : Vals dvs ds) (hx : ∀ σ, PassesAt CX X σ (E σ)) (ha : PA X (e :: es) t)
    (hst : starEach (e :: es) X.env = (false, eval e X.env) :: starEach es X.env := by rfl) (hpl : (backTo pos (starEach es X.env)).any (·.1) = false := by rfl)
    (ht : eval (.Call (.Attribute o m apos) (e :: es) [] pos) X.env = (do
      let ov ← eval o X.env
      standAt apos.atName
      let (f, first) ← holding [ov] (getMethod ov m pl)
      callWith pos f first (backTo pos (starEach (e :: es) X.env)) (backToKw pos (keywordEach [] X.env))) := by rfl) :
    PE X (.Call (.Attribute o m apos) (e :: es) [] pos) (tMethS C m sp dvs E ta t) := by
  refine ⟨fun pins s σ H Q I h => ?_⟩
  refine PySem.W.methodCall_KW (pl := pl) (thn (he.run pins s σ H _ I h) fun u s1 ⟨x, H1, I1, rx, a, dx, fs, ex, ea, l, q⟩ => ?_) ht
  subst ex
  obtain rfl : u = Value.ref a := rx
  refine getmeth_ok I1 ea c hm l ?_
  refine PySem.W.callWith_K (first := [.ref a]) (h₀ := X.base) I.ok.mod.kin hm.kp (thn (ha.run pos pins s1 σ H1 _ I1 q) fun us s2 ⟨vs, H2, I2, r, q2⟩ => ⟨I2.kIn, ?_⟩) hst hpl
  exact run_fnSD (us := .ref a :: us) (vs := .ref a :: vs) F hr hb hd (hx σ) I2 (.cons rfl r) q2
theorem pe_methS0 {pl : Sem Bool} (he : PE X o ta) (c : L2.Cls X.K C) (hm : Meth X.K C m f) (F : FnOk X.prog X.w X.K X.mg X.base CX k f fd ps sp) (hr : Room k X.A) (hb : Binds X.K fd ps ds) (hd : Vals dvs ds) (hx : ∀ σ, PassesAt CX X σ (E σ))
    (ht : eval (.Call (.Attribute o m apos) [] [] pos) X.env = (do
      let ov ← eval o X.env
      standAt apos.atName
      let (f, first) ← holding [ov] (getMethod ov m pl)
      callWith pos f first (backTo pos (starEach [] X.env)) (backToKw pos (keywordEach [] X.env))) := by rfl) :
    PE X (.Call (.Attribute o m apos) [] [] pos) (tMethS C m sp dvs E ta L2.tNil) := by
  refine ⟨fun pins s σ H Q I h => ?_⟩
  refine PySem.W.methodCall_KW (pl := pl) (thn (he.run pins s σ H _ I h) fun u s1 ⟨x, H1, I1, rx, a, dx, fs, ex, ea, l, q⟩ => ?_) ht
  subst ex
  obtain rfl : u = Value.ref a := rx
  refine getmeth_ok I1 ea c hm l ?_
  exact PySem.W.callWith_K0 (first := [.ref a]) I1.kIn hm.kp (run_fnSD (us := [.ref a]) (vs := [.ref a]) F hr hb hd (hx σ) I1 (.cons rfl .nil) q)
def tMakeS (C : Addr) (sp : Sp) (dvs : List V) (E : St → XK) (t : TA) : TE := fun σ H Q => t σ H fun vs H1 => ∀ x dx, H1 x = none → H1 dx = none → dx ≠ x →
  sp (.ref x :: (vs ++ dvs)) (upd (upd H1 dx (.own x)) x (.ins C dx [])) (fun v H2 => v = .non ∧ Q (.ref x) H2) (E σ)
theorem run_makeS {pins : List (Addr × Obj)} {σ : St} {H : Hp} {s : Shared} {Q : VK} {us : List Value} {vs : List V} (M : Mk X.K C f) (F : FnOk X.prog X.w X.K X.mg X.base CX k f fd ps sp) (hr : Room (k + 1) X.A) (hb : Binds X.K fd ps ds) (hd : Vals dvs ds)
    (hx : PassesAt CX X σ (E σ)) (I : Inv X pins σ H s) (r : Vals vs us)
    (h : ∀ x dx, H x = none → H dx = none → dx ≠ x → sp (.ref x :: (vs ++ dvs)) (upd (upd H dx (.own x)) x (.ins C dx [])) (fun v H2 => v = .non ∧ Q (.ref x) H2) (E σ)) :
    wpAny (model X.prog X.w) X.A (call (.ref C) us) (EP X pins σ Q) X.xe s := by
  have hq := h (s.heap.objs.size + 1) s.heap.objs.size (I.hok.fresh (Nat.le_succ _)) (I.hok.fresh (Nat.le_refl _)) (Nat.ne_of_lt (Nat.lt_succ_self _))
  have I2 := Inv.made (C := C) I
  have r2 : Vals (V.ref (s.heap.objs.size + 1) :: (vs ++ dvs)) (Value.ref (s.heap.objs.size + 1) :: (us ++ ds)) := .cons rfl (r.append hd)
  have hl : (Value.ref (s.heap.objs.size + 1) :: us ++ ds).length = ps.length := by
    have e := r2.length
    rw [F.len _ _ _ _ hq] at e
    exact e.symm
  refine wpAny_call (make_map (f := f) I.kIn M.makes M.init (beq_iff_eq.mp M.fn) (codeAny_mono (F.run _ X.stack _ _ ⟨Value.ref (s.heap.objs.size + 1) :: us, []⟩ (Value.ref (s.heap.objs.size + 1) :: (us ++ ds)) _ _ (E σ) (hr.make C us [])
    (I2.env0.make C us []) (hb _ (Value.ref (s.heap.objs.size + 1) :: us) I2.kIn hl) r2 hq) fun r s' hq' => ?_))
  cases r with
  | error e => exact hx pins _ _ e s' I2 hq'
  | ok fl =>
    cases fl with
    | ret u =>
      obtain ⟨v, H', I3, rv, ev, q3⟩ := I2.after hq'
      subst ev
      exact ⟨rv, ⟨V.ref (s.heap.objs.size + 1), H', I3, rfl, q3⟩⟩
    | next => exact False.elim hq'
    | brk => exact False.elim hq'
    | cont => exact False.elim hq'
theorem pe_makeS (M : Mk X.K C f) (F : FnOk X.prog X.w X.K X.mg X.base CX k f fd ps sp) (hr : Room (k + 1) X.A) (hg : Gl X x) (hm : X.mg x = some (.ref C)) (hb : Binds X.K fd ps ds) (hd : Vals dvs ds) (hx : ∀ σ, PassesAt CX X σ (E σ))
    (ha : PA X (e :: es) t) (hdb : (x == ("__debug__" : Str)) = false := by decide) (he : starEach (e :: es) X.env = (false, eval e X.env) :: starEach es X.env := by rfl) (hpl : (backTo pos (starEach es X.env)).any (·.1) = false := by rfl) :
    PE X (.Call (.Name x p) (e :: es) [] pos) (tMakeS C sp dvs E t) := by
  refine ⟨fun pins s σ H Q I h => ?_⟩
  refine wpAny_Call_Name_kw (ld_glob I hg hm ?_ hdb)
  refine PySem.W.callWith_K (h₀ := X.base) I.ok.mod.kin M.kp (thn (ha.run pos pins s σ H _ I h) fun us s1 ⟨vs, H1, I1, r, q⟩ => ⟨I1.kIn, ?_⟩) he hpl
  exact run_makeS M F hr hb hd (hx σ) I1 r q
theorem pe_makeS0 (M : Mk X.K C f) (F : FnOk X.prog X.w X.K X.mg X.base CX k f fd ps sp) (hr : Room (k + 1) X.A) (hg : Gl X x) (hm : X.mg x = some (.ref C)) (hb : Binds X.K fd ps ds) (hd : Vals dvs ds) (hx : ∀ σ, PassesAt CX X σ (E σ))
    (hdb : (x == ("__debug__" : Str)) = false := by decide) : PE X (.Call (.Name x p) [] [] pos) (tMakeS C sp dvs E L2.tNil) := by
  refine ⟨fun pins s σ H Q I h => ?_⟩
  refine wpAny_Call_Name_kw (ld_glob I hg hm ?_ hdb)
  exact PySem.W.callWith_K0 I.kIn M.kp (run_makeS (us := []) M F hr hb hd (hx σ) I .nil h)
end slots
/-! ### over data -/
section rules
variable {X : Cx} {Wx : WX} {k n : Nat} {f C : Addr} {fd : FuncData} {ps : List Str} {F : FN} {x m : Str} {p pos apos : Pos} {e o : Expr} {es : List Expr} {fa : FA} {fo : FE}
def fMeth (C : Addr) (m : Str) (F : FN) (fo : FE) (fa : FA) : FE := fun en S => (fo en S).bind fun d S1 => match insAt S1 C d with
  | some (_, fs) => if fs.lookup m = none then (fa en S1).bind fun ds S2 => F (d :: ds) S2 else .no
  | none => .no
/-- a method as its callers see it -/
structure CalM (P : Program) (w : World) (K : PySem.W.Frag) (mg : Str → Option Value) (base : Heap) (C : Addr) (m : Str) (ps : List Str) (k : Nat) (F : FN) : Prop where
  ex : ∃ f fd, Meth K C m f ∧ Binds K fd ps [] ∧ FnOk P w K mg base (L2.CX P w) k f fd ps (spD K F ps.length)
theorem pf_meth {j : Nat} {pl : Sem Bool} (c : L2.Cls X.K C) (hc : CalM X.prog X.w X.K X.mg X.base C m ps k F) (hr : Room j X.A) (hj : k ≤ j) (tk : Takes X Wx) (ho : PFE X Wx o fo) (ha : PFA X Wx (e :: es) fa) (hn : ps.length = n := by rfl)
    (hst : starEach (e :: es) X.env = (false, eval e X.env) :: starEach es X.env := by rfl) (hpl : (backTo pos (starEach es X.env)).any (·.1) = false := by rfl)
    (ht : eval (.Call (.Attribute o m apos) (e :: es) [] pos) X.env = (do
      let ov ← eval o X.env
      standAt apos.atName
      let (f, first) ← holding [ov] (getMethod ov m pl)
      callWith pos f first (backTo pos (starEach (e :: es) X.env)) (backToKw pos (keywordEach [] X.env))) := by rfl) :
    PFE X Wx (.Call (.Attribute o m apos) (e :: es) [] pos) (fMeth C m (F.len n) fo fa) := by
  subst hn
  obtain ⟨f, fd, hm, hb, G⟩ := hc.ex
  refine ⟨fun W H σ en S Q he' hs hp => PE_w (pe_methS (pl := pl) pe_w c hm G (hr.mono hj) hb .nil (fun σ => passAt tk σ) pa_w hst hpl ht) (ho.run W H σ en S _ he' hs (Post.bind hp fun d S1 W1 H1 v e1 s1 r1 p1 => ?_))⟩
  split at p1
  · rename_i q fs hi
    obtain ⟨rfl, hn, a, dx, vs, rfl, hA, h1, h2⟩ := ins_at s1 r1 hi
    split at p1
    · rename_i hl
      refine ⟨a, dx, vs, rfl, h1, h2.miss hl, ha.run W1 H1 σ en S1 _ (he'.ext e1) s1 (Post.bind p1 fun ds S2 W2 H2 us e2 s2 r2 p2 => ?_)⟩
      rw [List.append_nil]
      unfold FN.len at p2
      split at p2
      · rename_i hl2
        have rr : DRels X.K W2 H2 (.ref q :: ds) (.ref a :: us) := by unfold DRels; exact ⟨_, _, rfl, r1.ext e2, r2⟩
        exact ⟨by rw [← rr.length]; exact hl2, W2, S2, .ref q :: ds, s2, rr, p2⟩
      · exact p2.elim
    · exact p1.elim
  · exact p1.elim
theorem pf_meth0 {j : Nat} {pl : Sem Bool} (c : L2.Cls X.K C) (hc : CalM X.prog X.w X.K X.mg X.base C m ps k F) (hr : Room j X.A) (hj : k ≤ j) (tk : Takes X Wx) (ho : PFE X Wx o fo) (hn : ps.length = n := by rfl)
    (ht : eval (.Call (.Attribute o m apos) [] [] pos) X.env = (do
      let ov ← eval o X.env
      standAt apos.atName
      let (f, first) ← holding [ov] (getMethod ov m pl)
      callWith pos f first (backTo pos (starEach [] X.env)) (backToKw pos (keywordEach [] X.env))) := by rfl) :
    PFE X Wx (.Call (.Attribute o m apos) [] [] pos) (fMeth C m (F.len n) fo fNil) := by
  subst hn
  obtain ⟨f, fd, hm, hb, G⟩ := hc.ex
  refine ⟨fun W H σ en S Q he' hs hp => PE_w (pe_methS0 (pl := pl) pe_w c hm G (hr.mono hj) hb .nil (fun σ => passAt tk σ) ht) (ho.run W H σ en S _ he' hs (Post.bind hp fun d S1 W1 H1 v e1 s1 r1 p1 => ?_))⟩
  split at p1
  · rename_i q fs hi
    obtain ⟨rfl, hn, a, dx, vs, rfl, hA, h1, h2⟩ := ins_at s1 r1 hi
    split at p1
    · rename_i hl
      refine ⟨a, dx, vs, rfl, h1, h2.miss hl, ?_⟩
      show spD X.K F ps.length ([.ref a] ++ []) H1 Q _
      have p2 : Post X.K DRel W1 H1 (FN.len F ps.length [.ref q] S1) Q (Wish Wx σ) := p1
      unfold FN.len at p2
      split at p2
      · rename_i hl2
        have rr : DRels X.K W1 H1 [.ref q] [.ref a] := by unfold DRels; exact ⟨_, _, rfl, r1, by unfold DRels; rfl⟩
        exact ⟨by simpa using hl2, W1, S1, [.ref q], s1, rr, p2⟩
      · exact p2.elim
    · exact p1.elim
  · exact p1.elim
/-- C(..) -/
def fMake (C : Addr) (F : FN) (fa : FA) : FE := fun en S => (fa en S).bind fun ds S1 => match F (.ref S1.length :: ds) (S1 ++ [.ins C []]) with
  | .ok .non S2 => .ok (.ref S1.length) S2
  | .ex E S2 => .ex E S2
  | _ => .no
theorem make_post {K : PySem.W.Frag} {W : Wd} {H : Hp} {S : So} {ds : List D} {vs : List V} {Q : VK} {E : XK} {n : Nat} (s : SRel K W H S) (r : DRels K W H ds vs)
    (h : Post K DRel W H (match FN.len F n (.ref S.length :: ds) (S ++ [.ins C []]) with
      | .ok .non S2 => .ok (.ref S.length) S2
      | .ex E S2 => .ex E S2
      | _ => .no) Q E) {x dx : Addr} (hx : H x = none) (hdx : H dx = none) (hne : dx ≠ x) :
    spD K F n (.ref x :: vs) (upd (upd H dx (.own x)) x (.ins C dx [])) (fun v H2 => v = .non ∧ Q (.ref x) H2) E := by
  have hx' : upd H dx (.own x) x = none := by rw [upd_ne (fun q => hne q.symm)]; exact hx
  have s1 : SRel K W (upd H dx (.own x)) S := s.more hdx
  have e1 : Ext K W H W (upd H dx (.own x)) := ext_more s hdx
  have s2 : SRel K (W.add x) (upd (upd H dx (.own x)) x (.ins C dx [])) (S ++ [.ins C []]) := s1.new hx' trivial ⟨dx, [], upd_same, rfl⟩
  have e2 : Ext K W (upd H dx (.own x)) (W.add x) (upd (upd H dx (.own x)) x (.ins C dx [])) := ext_add s1 hx'
  have e := e1.trans e2
  have rn : DRel K (W.add x) (upd (upd H dx (.own x)) x (.ins C dx [])) (.ref S.length) (.ref x) := drel_add s1
  have rr : DRels K (W.add x) (upd (upd H dx (.own x)) x (.ins C dx [])) (.ref S.length :: ds) (.ref x :: vs) := by unfold DRels; exact ⟨_, _, rfl, rn, r.ext e⟩
  unfold FN.len at h
  by_cases hl : (D.ref S.length :: ds).length = n
  · rw [if_pos hl] at h
    refine ⟨by rw [← rr.length]; exact hl, W.add x, S ++ [.ins C []], .ref S.length :: ds, s2, rr, ?_⟩
    have h := h.later e
    cases q : F (.ref S.length :: ds) (S ++ [.ins C []]) with
    | no => rw [q] at h; exact h
    | ex E' S2 => rw [q] at h; exact h
    | ok d S2 =>
      rw [q] at h
      cases d with
      | non =>
        intro W3 H3 v e3 s3 r3
        unfold DRel at r3
        exact ⟨r3, h W3 H3 (.ref x) e3 s3 (rn.ext e3)⟩
      | _ => exact h.elim
  · rw [if_neg hl] at h; exact h.elim
/-- a class as its makers see it -/
structure CalC (P : Program) (w : World) (K : PySem.W.Frag) (mg : Str → Option Value) (base : Heap) (x : Str) (C : Addr) (ps : List Str) (k : Nat) (F : FN) : Prop where
  ex : ∃ f fd, mg x = some (.ref C) ∧ Mk K C f ∧ Binds K fd ps [] ∧ FnOk P w K mg base (L2.CX P w) k f fd ps (spD K F ps.length)
theorem pf_make {j : Nat} (hc : CalC X.prog X.w X.K X.mg X.base x C ps k F) (hr : Room j X.A) (hj : k + 1 ≤ j) (hg : Gl X x) (tk : Takes X Wx)
    (ha : PFA X Wx (e :: es) fa) (hn : ps.length = n := by rfl) (hdb : (x == ("__debug__" : Str)) = false := by decide) (he : starEach (e :: es) X.env = (false, eval e X.env) :: starEach es X.env := by rfl) (hpl : (backTo pos (starEach es X.env)).any (·.1) = false := by rfl) :
    PFE X Wx (.Call (.Name x p) (e :: es) [] pos) (fMake C (F.len n) fa) := by
  subst hn
  obtain ⟨f, fd, hm, M, hb, G⟩ := hc.ex
  refine ⟨fun W H σ en S Q he' hs hp => PE_w (pe_makeS M G (hr.mono hj) hg hm hb .nil (fun σ => passAt tk σ) pa_w hdb he hpl) (ha.run W H σ en S _ he' hs (Post.bind hp fun ds S1 W1 H1 vs e1 s1 r1 p1 => fun y dy hy hdy hne => ?_))⟩
  rw [List.append_nil]
  exact make_post s1 r1 p1 hy hdy hne
theorem pf_make0 {j : Nat} (hc : CalC X.prog X.w X.K X.mg X.base x C ps k F) (hr : Room j X.A) (hj : k + 1 ≤ j) (hg : Gl X x) (tk : Takes X Wx) (hn : ps.length = n := by rfl) (hdb : (x == ("__debug__" : Str)) = false := by decide) :
    PFE X Wx (.Call (.Name x p) [] [] pos) (fMake C (F.len n) fNil) := by
  subst hn
  obtain ⟨f, fd, hm, M, hb, G⟩ := hc.ex
  refine ⟨fun W H σ en S Q he' hs hp => PE_w (pe_makeS0 M G (hr.mono hj) hg hm hb .nil (fun σ => passAt tk σ) hdb) (fun y dy hy hdy hne => ?_)⟩
  exact make_post (ds := []) (vs := []) hs (by unfold DRels; rfl) hp hy hdy hne
end rules
end PF
namespace PF
open PySem L2
variable [Tab]
section tgt
variable {X : Cx} {Wx : WX} {C : Addr} {f : Str} {o value : Expr} {fo fv : FE} {pos pos' : Pos}
/-- o.f as a target -/
def gtFld (C : Addr) (f : Str) (fo : FE) : FG := fun y en S => match fo en S with
  | .ok d S1 => match insAt S1 C d with
    | some (n, fs) => if fs.length < 1000 then some (en, S1.set n (.ins C (putD f y fs))) else none
    | none => none
  | _ => none
theorem pfs_fldG (c : L2.Cls X.K C) (na : NoAttr X.K C f) (ho : PFE X Wx o fo) (hv : PFE X Wx value fv) (hsw : swapsWith value (some (.Attribute o f pos')) pos.line X.env = pure false := by rfl) : PFS X Wx (.Assign [.Attribute o f pos'] value pos) (fAsg fv (gtFld C f fo)) := by
  refine ⟨fun W H σ en S Z he hs hp => (pfs_fld c na ho hv hsw).run W H σ en S Z he hs ?_⟩
  unfold fSetF
  unfold fAsg at hp
  cases h1 : fv en S with
  | no => rw [h1] at hp; exact hp
  | ex E S1 => rw [h1] at hp; exact hp
  | ok y S1 =>
    rw [h1] at hp
    simp only [fthen] at hp ⊢
    unfold gtFld at hp
    cases h2 : fo en S1 with
    | no => rw [h2] at hp; exact hp.elim
    | ex E S2 => rw [h2] at hp; exact hp.elim
    | ok d S2 =>
      rw [h2] at hp
      dsimp only at hp ⊢
      cases h3 : insAt S2 C d with
      | none => rw [h3] at hp; exact hp.elim
      | some q =>
        obtain ⟨n, fs⟩ := q
        rw [h3] at hp
        dsimp only at hp ⊢
        by_cases hl : fs.length < 1000
        · rw [if_pos hl] at hp ⊢; exact hp
        · rw [if_neg hl] at hp; exact hp.elim
end tgt
end PF

namespace PF
open PySem L2
variable [Tab]
/-! ### self.f op= e, told as an assignment -/
section aug
variable {X : Cx} {Wx : WX} {C : Addr} {f x : Str} {value : Expr} {fv : FE} {pos tpos npos : Pos} {i : Nat} {g : G2}
theorem aug_eq (en : En) (S : So) : fAugF C f (fVar i) fv g en S = fAsg (fOp g (fFld C f (fVar i)) fv) (gtFld C f (fVar i)) en S := by
  unfold fAugF fAsg fOp fFld gtFld
  cases hv : fVar i en S with
  | no => rfl
  | ex E S1 => rfl
  | ok d S1 =>
    have hd : ∀ S', fVar i en S' = .ok d S' := by
      unfold fVar at hv ⊢
      cases q : en[i]? with
      | none => rw [q] at hv; cases hv
      | some o =>
        cases o with
        | none => rw [q] at hv; cases hv
        | some d' => rw [q] at hv; cases hv; intro S'; rfl
    simp only [fthen, Rs.bind]
    cases h1 : insAt S1 C d with
    | none => rfl
    | some q =>
      obtain ⟨n, fs⟩ := q
      dsimp only
      cases h2 : fs.lookup f with
      | none => rfl
      | some v =>
        dsimp only
        cases h3 : fv en S1 with
        | no => rfl
        | ex E S2 => rfl
        | ok y S2 =>
          dsimp only
          cases h4 : g v y S2 with
          | none => rfl
          | some q =>
            obtain ⟨z, S3⟩ := q
            simp only [ofO, hd]
            cases h5 : insAt S3 C d with
            | none => rfl
            | some q =>
              obtain ⟨n', fs'⟩ := q
              dsimp only
              by_cases h6 : fs'.length < 1000
              · rw [if_pos h6, if_pos h6]; rfl
              · rw [if_neg h6, if_neg h6]; rfl
theorem pfs_fldaugV {op : Operator} {r : R2} (c : L2.Cls X.K C) (na : NoAttr X.K C f) (hop : OpR X (inplaceOp op) r) (hg : OpD X.K r g) (ho : PFE X Wx (.Name x npos) (fVar i)) (hv : PFE X Wx value fv) : PFS X Wx (.AugAssign (.Attribute (.Name x npos) f tpos) op value pos) (fAsg (fOp g (fFld C f (fVar i)) fv) (gtFld C f (fVar i))) :=
  ⟨fun W H σ en S Z he hs hp => (pfs_fldaug c na hop hg ho hv).run W H σ en S Z he hs (by rw [aug_eq]; exact hp)⟩
end aug
end PF

namespace PF
open PySem L2
variable [Tab]
/-- a def of which nothing is asked -/
theorem fn_none {P : Program} {w : World} {K : PySem.W.Frag} {mg : Str → Option Value} {base : Heap} {CX : CXT} {k n : Nat} {f : Addr} {fd : FuncData} {ps : List Str} {F : FN} (hF : ∀ ds S, F ds S = .no) : FnOk P w K mg base CX k f fd ps (spD K F n) where
  len := fun vs H Q E h => by
    obtain ⟨_, W, S, ds, _, _, hp⟩ := h
    rw [hF] at hp; exact hp.elim
  run := fun A outer s H a us vs Q E hr he hb r h => by
    obtain ⟨_, W, S, ds, _, _, hp⟩ := h
    rw [hF] at hp; exact hp.elim
end PF

namespace PF
open PySem L2
variable [Tab]
/-! ### range with a step -/
section r3
variable {X : Cx} {Wx : WX} {tg a b c : Expr} {fa : FA} {p pos : Pos}
def rg3Ok (i j c : Int) : Bool := decide (c ≠ 0) && decide (c.natAbs < 1073741824) && Builtin.Range.small i j c && decide (0 ≤ Builtin.Range.rangeSize i j c)
def rg3 (i j c : Int) : List D := rgC i c (Builtin.Range.rangeSize i j c).toNat
def fiRng3 (fa : FA) : FI := fun en S => (fa en S).bind fun ds S1 => match ds with
  | [.int i, .int j, .int c] => if rg3Ok i j c = true then .ok (.items (rg3 i j c)) S1 else .no
  | _ => .no
theorem drels3 {K : PySem.W.Frag} {W : Wd} {H : Hp} {a b c : D} {vs : List V} (h : DRels K W H [a, b, c] vs) : ∃ x y z, vs = [x, y, z] ∧ DRel K W H a x ∧ DRel K W H b y ∧ DRel K W H c z := by
  unfold DRels at h
  obtain ⟨x, r, rfl, h1, h2⟩ := h
  obtain ⟨y, z, rfl, h3, h4⟩ := drels2 h2
  exact ⟨x, y, z, rfl, h1, h3, h4⟩
theorem pfi_range3 (hg : Gl X "range") (hm : X.mg "range" = none) (ha : PFA X Wx [a, b, c] fa) (hs : starEach [a, b, c] X.env = (false, eval a X.env) :: starEach [b, c] X.env := by rfl) (hpl : (backTo pos (starEach [b, c] X.env)).any (·.1) = false := by rfl) : PFI X Wx tg (.Call (.Name "range" p) [a, b, c] [] pos) (fiRng3 fa) := by
  refine ⟨fun W H σ en S Q he hs' hp => PI_w (pi_range3 hg hm pa_w hs hpl) (ha.run W H σ en S _ he hs' (Post.bind hp fun ds S1 W1 H1 vs e1 s1 r1 p1 => ?_))⟩
  split at p1
  · obtain ⟨v, u, t, rfl, h1, h2, h3⟩ := drels3 r1
    unfold DRel at h1 h2 h3; subst h1; subst h2; subst h3
    split at p1
    · rename_i i j k hc
      simp only [rg3Ok, Bool.and_eq_true, decide_eq_true_eq] at hc
      exact ⟨i, j, k, _, rfl, ⟨hc.1.1.1, hc.1.1.2, hc.1.2, (Int.toNat_of_nonneg hc.2).symm⟩, p1.here s1 itr_rangeC⟩
    · exact p1.elim
  · exact p1.elim
end r3
end PF

namespace PF
open PySem PySem.Spec PyProof.Rows L2
variable [Tab]
/-! ### raise C(e) -/
section
variable {X : Cx} {Wx : WX} {C : Addr} {bmB : List Value} {B newId initId : String} {x : Str} {p pos apos : Pos} {e : Expr} {t : TA} {fa : FA}
theorem pmk_ownE (F : ExcBaseFacts B newId initId bmB) (q : PySem.W.excIn X.K C bmB newId = true) (gC : X.mg x = some (.ref C)) (kC : PySem.W.keepIn X.K (.ref C) = true) (r : Raises X (.ref C)) (hg : Gl X x) (ha : PA X [e] t)
    (hdb : (x == ("__debug__" : Str)) = false := by decide) (he : starEach [e] X.env = [(false, eval e X.env)] := by rfl) : PMk X (.Call (.Name x p) [e] [] pos) (fun σ H Q => t σ H fun vs H1 => vs.length = 1 ∧ Q (.ref C) none H1) := by
  intro pins s σ H Q I h
  refine wpAny_Call_Name_kw (ld_glob I hg gC ?_ hdb)
  refine PySem.W.callWith_K (h₀ := X.base) I.ok.mod.kin kC (thn (ha.run pos pins s σ H _ I h) fun us s1 hh => ?_) he
  obtain ⟨vs, H1, I1, r1, ev, q1⟩ := hh
  refine ⟨I1.kIn, ?_⟩
  have hl : us.length = 1 := by rw [← r1.length]; exact ev
  match us, hl with
  | [u], _ =>
    show wpAny _ _ (call (.ref C) [u]) _ _ _
    obtain ⟨bm, N, nm, qn, bs, hdct, sn, sub, ab, col, dd, k0, k1, k2, k3, k5, mN, hC, hN, hni, T⟩ := exc_obj I1.kIn q
    refine wpAny_call_exc_subT F T hC hN hni (fun h' e hm => ?_) (by show 1 ≤ sizeLine; rw [sizeLine_eq]; omega)
    exact mk_of I1 hm r q1 (I1.hok.gone hm.new)
def fRaiseE (C : Addr) (fa : FA) : FS := fun en S => fthen en (fa en S) fun ds S1 => if ds.length = 1 then .ex C en S1 else .no
theorem pfs_raiseX (ex : Exc X.K X.mg x C) (hc : X.calm = true) (tk : Takes X Wx) (ha : PFA X Wx [e] fa) (hg : Gl X x) (hdb : (x == ("__debug__" : Str)) = false := by decide) (he : starEach [e] X.env = [(false, eval e X.env)] := by rfl) :
    PFS X Wx (.Raise (some (.Call (.Name x p) [e] [] apos)) none pos) (fRaiseE C fa) := by
  refine ⟨fun W H σ en S Z he' hs hp => PS_w (ps_raise hc tk (pmk_ownE PySem.F.excBase_ValueError ex.q ex.g ex.k (raises_own ex.b ex.t) hg pa_w hdb he)) (ha.run W H σ en S _ he' hs (post_then he' hp fun ds S1 W1 H1 vs e1 s1 r1 p1 => ?_))⟩
  split at p1
  · rename_i hl
    exact ⟨by rw [← r1.length]; exact hl, p1 W1 H1 σ none Ext.refl s1 (he'.ext e1)⟩
  · exact p1.elim
end
end PF

namespace PF
open PySem PySem.Spec PyProof.Rows L2
/-! ### sorted over rows of ints -/
def lexL : List Int → List Int → Bool
  | [], [] => false
  | [], _ :: _ => true
  | _ :: _, [] => false
  | x :: xs, y :: ys => if x = y then lexL xs ys else decide (x < y)
theorem lexL_asym : ∀ xs ys, lexL xs ys = true → lexL ys xs = false
  | [], [], h => rfl
  | [], _ :: _, h => rfl
  | _ :: _, [], h => by cases h
  | x :: xs, y :: ys, h => by
    simp only [lexL] at h ⊢
    by_cases e : x = y
    · rw [if_pos e] at h; rw [if_pos e.symm]; exact lexL_asym xs ys h
    · rw [if_neg e] at h; rw [if_neg (fun q => e q.symm)]
      simp at h ⊢; omega
theorem lexL_tr : ∀ xs ys zs, lexL ys xs = false → lexL zs ys = false → lexL zs xs = false
  | [], ys, [], h1, h2 => rfl
  | [], ys, z :: zs, h1, h2 => rfl
  | x :: xs, [], zs, h1, h2 => by cases h1
  | x :: xs, y :: ys, [], h1, h2 => by cases h2
  | x :: xs, y :: ys, z :: zs, h1, h2 => by
    simp only [lexL] at h1 h2 ⊢
    by_cases e1 : y = x
    · rw [if_pos e1] at h1
      by_cases e2 : z = y
      · rw [if_pos e2] at h2
        rw [if_pos (e2.trans e1)]; exact lexL_tr xs ys zs h1 h2
      · rw [if_neg e2] at h2
        rw [if_neg (fun q => e2 (q.trans e1.symm))]
        simp at h2 ⊢; omega
    · rw [if_neg e1] at h1
      by_cases e2 : z = y
      · rw [if_neg (fun q => e1 (e2 ▸ q))]
        simp at h1 ⊢; omega
      · rw [if_neg e2] at h2
        simp at h1 h2
        by_cases e3 : z = x
        · omega
        · rw [if_neg e3]; simp; omega
theorem swo_lexL {α : Type} (k : α → List Int) : SrtO.Swo fun v u => lexL (k v) (k u) := ⟨fun x y h => lexL_asym _ _ h, fun x y z h1 h2 => lexL_tr _ _ _ h1 h2⟩
section srt
variable {prog : Program} {w : World} {A : Around} {s : Shared}
/-- a tuple of ints at v -/
def IsRow (h : Heap) (v : Value) (ns : List Int) : Prop := ∃ a o its n, v = .ref a ∧ h.get? a = some o ∧ o.cls = .type "tuple" ∧ o.data = .seq its n ∧ Vals (ns.map V.int) its.toList
theorem IsRow.keeps {h h' : Heap} {v : Value} {ns : List Int} (p : IsRow h v ns) (k : ∀ b o, h.get? b = some o → o.cls = .type "tuple" → h'.get? b = some o) : IsRow h' v ns := by
  obtain ⟨a, o, its, n, e, ho, hc, hd, r⟩ := p
  exact ⟨a, o, its, n, e, k a o ho hc, hc, hd, r⟩
theorem kat_ints {b : Bool} : ∀ (ns ms : List Int) (xs ys : List Value) (i : Nat) (fin : Bool), Vals (ns.map V.int) xs → Vals (ms.map V.int) ys → fin = decide (ns.length < ms.length) → PySem.W.KatLex prog w A b fin (fun r s' => s' = s ∧ r = lexL ns ms) (xs.zip ys) i s
  | [], ms, xs, ys, i, fin, hx, hy, hf => by
    cases hx
    refine PySem.W.kat_nil ⟨rfl, ?_⟩
    cases ms with
    | nil => rw [hf]; rfl
    | cons m ms => rw [hf]; simp [lexL]
  | n :: ns, [], xs, ys, i, fin, hx, hy, hf => by
    cases hy
    cases hx with
    | cons h1 h2 => exact PySem.W.kat_nil ⟨rfl, by rw [hf]; simp [lexL]⟩
  | n :: ns, m :: ms, xs, ys, i, fin, hx, hy, hf => by
    cases hx with
    | cons h1 h2 =>
      cases hy with
      | cons k1 k2 =>
        obtain ⟨t, rfl⟩ := h1
        obtain ⟨u, rfl⟩ := k1
        refine PySem.W.kat_cons (SeqAt.EqAt.int_int n t m u prog w _ _ ?_)
        refine PySem.W.kat_go (fun e1 => ?_) (fun e1 => ?_)
        · have ex : n = m := by simpa using e1
          have := kat_ints (b := b) ns ms _ _ (i + 1) fin h2 k2 (by rw [hf]; simp)
          refine PySem.W.kat_yes ?_
          have e2 : lexL (n :: ns) (m :: ms) = lexL ns ms := by simp [lexL, ex]
          rw [e2]; exact this
        · have ex : ¬ n = m := by simpa using e1
          have e2 : lexL (n :: ns) (m :: ms) = decide (n < m) := by simp [lexL, ex]
          refine PySem.W.kat_no ?_
          rw [e2]
          cases hb : (b && i == 0) with
          | true => exact oneLt_int ⟨rfl, rfl⟩
          | false => exact PySem.W.kat_one _ _ (PyProof.Rows.lt_int ⟨rfl, rfl⟩)
end srt
end PF
namespace PF
open PySem PySem.Spec PyProof.Rows L2
section srt2
variable {prog : Program} {w : World} {A : Around} {s : Shared}
theorem row_cmp {vs : List Value} {k : Value → List Int} (hp : ∀ v ∈ vs, IsRow s.heap v (k v)) : SrtO.Cmp prog w A s (tuples' true) (fun p => p.1 ∈ vs) (SrtO.lt2 fun v u => lexL (k v) (k u)) := by
  intro p q hm hm'
  obtain ⟨a, o, its, n, e, ho, hc, hd, r⟩ := hp _ hm
  obtain ⟨a', o', its', n', e', ho', hc', hd', r'⟩ := hp _ hm'
  show wpAny (model prog w) A (keyLt' (tuples' true) p.1 q.1) (fun r s' => s' = s ∧ r = lexL (k p.1) (k q.1)) (fun _ _ => False) s
  generalize k p.1 = ns at r ⊢
  generalize k q.1 = ms at r' ⊢
  rw [e, e']
  refine PySem.W.kat_lt ho hd ho' hd' (kat_ints ns ms _ _ 0 _ r r' ?_)
  have l1 := r.length
  have l2 := r'.length
  simp at l1 l2
  rw [l1, l2]
theorem firsts_rows {h : Heap} {k : Value → List Int} : ∀ {vs : List Value}, (∀ v ∈ vs, IsRow h v (k v) ∧ k v ≠ []) → ∃ fs, PySem.W.KatTups h vs fs ∧ fs.length = vs.length ∧ ∀ f ∈ fs, ∃ x t, f = Value.int x t
  | [], _ => ⟨[], PySem.W.KatTups.nil, rfl, by simp⟩
  | v :: vs, hp => by
    obtain ⟨fs, h1, h2, h3⟩ := firsts_rows (vs := vs) fun u hu => hp u (by simp [hu])
    obtain ⟨⟨a, o, its, n, e, ho, hc, hd, r⟩, hne⟩ := hp v (by simp)
    cases hk : k v with
    | nil => exact absurd hk hne
    | cons x ns =>
      rw [hk] at r
      generalize hl : its.toList = l at r
      cases r with
      | cons r1 r2 =>
        obtain ⟨t, rfl⟩ := r1
        rename_i us
        refine ⟨.int x t :: fs, ?_, by simp [h2], fun f hf => ?_⟩
        · rw [e]
          refine PySem.W.KatTups.cons ho hc hd ?_ h1
          have : its.toList[0]? = some (Value.int x t) := by rw [hl]; rfl
          simpa using this
        · rcases List.mem_cons.mp hf with rfl | hf
          · exact ⟨x, t, rfl⟩
          · exact h3 f hf
theorem rows_sortableO {a : Addr} {vs : List Value} {k : Value → List Int} (h0 : 0 < vs.length) (hp : ∀ v ∈ vs, IsRow s.heap v (k v) ∧ k v ≠ []) (ha : ∀ o, s.heap.get? a = some o → o.cls ≠ .type "tuple") : SrtO.SortableO prog w A s a vs fun v u => lexL (k v) (k u) := by
  intro h' keep
  have hp' : ∀ v ∈ vs, IsRow h' v (k v) := fun v hm => (hp v hm).1.keeps fun b o e c => keep b o (fun z => by subst z; exact ha o e c) e
  obtain ⟨fs, h1, h2, h3⟩ := firsts_rows (h := h') (k := k) (vs := vs) fun v hm => ⟨hp' v hm, (hp v hm).2⟩
  refine ⟨tuples' true, fun Q E hq => ?_, row_cmp hp'⟩
  refine PySem.W.kat_kind (T := .type "int") h1 (by omega) (fun f hm => ?_) (by rfl) ?_
  · obtain ⟨x, t, rfl⟩ := h3 f hm
    exact PySem.W.Looks.now
  · have e : (Value.type "int" != Value.type "tuple") = true := by first | decide +kernel | rfl | decide
    rw [e]
    exact hq
end srt2
end PF

namespace PF
open PySem PySem.Spec PyProof.Rows L2
section srt
variable {prog : Program} {w : World} {A : Around} {s : Shared} {E : Value → Shared → Prop}
theorem sorted_rows {l : Addr} {vs : List Value} {k : Value → List Int} {Q : Value → Shared → Prop} (hl : s.heap.IsList l vs.toArray) (hz : vs.length ≤ sizeLine) (hp : ∀ v ∈ vs, IsRow s.heap v (k v) ∧ k v ≠ [])
    (h : ∀ (h' : Heap) (d : Addr) (out : List Value), SrtO.Srtd (fun v u => lexL (k v) (k u)) out → SrtO.Stb (fun v u => lexL (k v) (k u)) out vs → (∀ b o, s.heap.get? b = some o → h'.get? b = some o) → s.heap.objs.size ≤ d → (∃ n, h'.get? d = some (seqObj "list" out.toArray n)) → Q (.ref d) { s with heap := h' }) :
    wpAny (model prog w) A (call (.builtin "sorted") [.ref l]) Q E s := by
  refine SrtO.sorted_ord (swo_lexL k) hl hz (fun h2 h₁ a ha kk => ?_) fun out hs hb => ?_
  · refine rows_sortableO (s := { s with heap := h₁ }) (by omega) (fun v hm => ⟨(hp v hm).1.keeps fun b o e _ => (kk b o e).2, (hp v hm).2⟩) fun o e => ?_
    have e' : some o = some (seqObj "list" vs.toArray 0) := e.symm.trans ha
    cases e'
    intro c
    exact absurd (Value.type.inj c) (by decide)
  · exact h _ _ out hs hb (fun b o e => sortedAll_old e) (Nat.le_succ _) (sortedAll_at s.heap vs out.toArray)
end srt
end PF
namespace PF
open PySem PySem.Spec PyProof.Rows L2
section tupc
variable {prog : Program} {w : World} {A : Around} {s : Shared} {E : Value → Shared → Prop}
/-- what a tuple holds is gathered like a list's -/
theorem collect_tup {l : Addr} {vs : List Value} {Q : List Value → Shared → Prop} (hl : IsTup s.heap l vs.toArray)
    (h : Q vs { s with heap := (s.heap.push (seqObj "list" #[] 0)).update s.heap.objs.size (Obj.mapSeq (· ++ vs.toArray)) }) (hsz : vs.length ≤ sizeLine) :
    wpAny (model prog w) A (collect (.ref l)) Q E s := by
  obtain ⟨o, ho, hc, n, hd⟩ := id hl
  unfold collect
  refine wpAny_bind (wpAny_runValue (codeAny_builtin entry_proto_collect' ?_))
  show wpAny _ _ (do again (.builtin "list.__iadd__" ⟨[← newList [], .ref l], []⟩)) _ _ s
  refine wpAny_bind (wpAny_newList (wpAny_pure ⟨Code.quiet_builtin _ (by decide +kernel), codeAny_builtin entry_list_iadd' ?_⟩))
  show wpAny _ _ (Builtin.List.listExtendWith (.ref s.heap.objs.size) (.ref l) (.ref s.heap.objs.size)) _ _ { s with heap := s.heap.push (seqObj "list" #[] 0) }
  unfold Builtin.List.listExtendWith
  have ho' : (s.heap.push (seqObj "list" #[] 0)).get? l = some o := Heap.get?_push_of_some _ ho
  refine wpAny_bind (wpAny_typeOf (T := "tuple") ⟨o, ho', hc⟩ ?_)
  have ht : (Value.type "tuple" == Value.type "tuple") = true := by rfl
  rw [if_pos (by rw [ht]; simp)]
  refine wpAny_bind (listItems_at ho' hd ?_)
  refine wpAny_bind (listItems_at (xs := #[]) (n := 0) (Heap.get?_push_size _ rfl) rfl ?_)
  rw [if_neg (by simp)]
  refine wpAny_bind (listUpdate_at (xs := #[]) (n := 0) (Heap.get?_push_size _ rfl) rfl ?_ (Nat.zero_le _) (by show (#[] ++ vs.toArray).size ≤ sizeLine + 1; simp only [Array.size_append, List.size_toArray, List.length_nil]; omega))
  refine wpAny_pure ?_
  show wpAny (model prog w) A (do
      let o ← load s.heap.objs.size
      match o.data with
      | .seq xs _ => pure xs.toList
      | _ => unsupported "internal:collect") Q E { s with heap := (s.heap.push (seqObj "list" #[] 0)).update s.heap.objs.size (Obj.mapSeq (· ++ vs.toArray)) }
  refine wpAny_bind (wpAny_load (get?_update_seq (Heap.get?_push_size _ rfl) _) ?_)
  show wpAny _ _ (pure ((#[] : Array Value) ++ vs.toArray).toList) Q E _
  rw [show ((#[] : Array Value) ++ vs.toArray).toList = vs by simp]
  exact wpAny_pure h
end tupc
end PF
namespace PF
open PySem PySem.Spec PyProof.Rows L2
section tups
variable {prog : Program} {w : World} {A : Around} {s : Shared} {E : Value → Shared → Prop}
/-- sorted(t), t a tuple -/
theorem sorted_ordT {l : Addr} {vs : List Value} {ltv : Value → Value → Bool} {Q : Value → Shared → Prop} (O : SrtO.Swo ltv) (hl : IsTup s.heap l vs.toArray) (hz : vs.length ≤ sizeLine)
    (hS : 2 ≤ vs.length → ∀ (h₁ : Heap) (a : Addr), h₁.get? a = some (seqObj "list" vs.toArray 0) → (∀ b o, s.heap.get? b = some o → b ≠ a ∧ h₁.get? b = some o) → SrtO.SortableO prog w A.in1.in1 { s with heap := h₁ } a vs ltv)
    (h : ∀ out : List Value, SrtO.Srtd ltv out → SrtO.Stb ltv out vs → Q (.ref (s.heap.objs.size + 1)) { s with heap := sortedAll s.heap vs out.toArray }) :
    wpAny (model prog w) A (call (.builtin "sorted") [.ref l]) Q E s := by
  refine Calls.call_function_entry kind_sorted plain_sorted entry_sorted (args_sorted1 _) ?_
  unfold Builtin.«sorted»
  refine wpAny_bind (m := checkCount "sorted" 1 1 _) (wpAny_pure ?_)
  refine wpAny_bind (collect_tup hl ?_ hz)
  refine wpAny_bind (wpAny_newList ?_ hz)
  have hsz : ((s.heap.push (seqObj "list" #[] 0)).update s.heap.objs.size (Obj.mapSeq (· ++ vs.toArray))).objs.size = s.heap.objs.size + 1 := by
    rw [Heap.size_update, size_push']
  have hoL : (((s.heap.push (seqObj "list" #[] 0)).update s.heap.objs.size (Obj.mapSeq (· ++ vs.toArray))).push (seqObj "list" vs.toArray 0)).get? (s.heap.objs.size + 1) = some (seqObj "list" vs.toArray 0) := by
    rw [← hsz]; exact Heap.get?_push_size _ rfl
  have keep : ∀ b o, s.heap.get? b = some o → b ≠ s.heap.objs.size + 1 ∧ (((s.heap.push (seqObj "list" #[] 0)).update s.heap.objs.size (Obj.mapSeq (· ++ vs.toArray))).push (seqObj "list" vs.toArray 0)).get? b = some o := fun b o q => by
    have hlt : b < s.heap.objs.size := Heap.lt_size q
    refine ⟨Nat.ne_of_lt (Nat.lt_succ_of_lt hlt), Heap.get?_push_of_some _ ?_⟩
    rw [Heap.get?_update_ne _ _ _ _ (Nat.ne_of_lt hlt)]
    exact Heap.get?_push_of_some _ q
  show wpAny _ _ _ _ _ { s with heap := ((s.heap.push (seqObj "list" #[] 0)).update s.heap.objs.size (Obj.mapSeq (· ++ vs.toArray))).push (seqObj "list" vs.toArray 0) }
  rw [hsz]
  refine wpAny_bind (wpAny_holding (wpAny_call_entry slot_list_sort ⟨_, hoL, rfl⟩ entry_list_sort (SrtO.list_sort_ord O hoL hz (fun h2 => hS h2 _ _ hoL keep) fun out hs hb => ⟨_, rfl, ?_⟩) (args_list_sort _)))
  exact wpAny_pure ⟨_, rfl, h out hs hb⟩
end tups
end PF

namespace PF
open PySem PySem.Spec PyProof.Rows L2
section rule
variable {X : Cx}
def rSortR (K : PySem.W.Frag) : List V → Hp → VK → Prop := fun vs H Q => ∃ (a : Addr) (xs : List V) (k : V → List Int), vs = [V.ref a] ∧ (SqL K H a xs ∨ SqT K H a xs) ∧ (∀ x ∈ xs, ∃ t, x = V.ref t ∧ SqT K H t ((k x).map V.int) ∧ k x ≠ []) ∧
  ∀ ys p, SrtO.Srtd (fun x y => lexL (k x) (k y)) ys → SrtO.Stb (fun x y => lexL (k x) (k y)) ys xs → H p = none → Q (.ref p) (upd H p (.lst ys))
theorem cr_sortR : CallR X (.builtin "sorted") (rSortR X.K) := by
  intro pins s σ H vs us Q I r h
  obtain ⟨a, xs, k, rfl, hs, hx, q⟩ := h
  obtain ⟨u, rfl, ru⟩ := vals1 r
  obtain rfl : u = Value.ref a := ru
  have core : ∀ (its : List Value), Vals xs its → xs.length ≤ sizeLine → (∀ {k' : Value → List Int} {Q' : Value → Shared → Prop}, (∀ v ∈ its, IsRow s.heap v (k' v) ∧ k' v ≠ []) →
      (∀ (h' : Heap) (d : Addr) (out : List Value), SrtO.Srtd (fun v u => lexL (k' v) (k' u)) out → SrtO.Stb (fun v u => lexL (k' v) (k' u)) out its → (∀ b o, s.heap.get? b = some o → h'.get? b = some o) → s.heap.objs.size ≤ d → (∃ n, h'.get? d = some (seqObj "list" out.toArray n)) → Q' (.ref d) { s with heap := h' }) →
      wpAny (model X.prog X.w) X.A (call (.builtin "sorted") [.ref a]) Q' X.xe s) → wpAny (model X.prog X.w) X.A (call (.builtin "sorted") [.ref a]) (EP X pins σ Q) X.xe s := by
    intro its rv hz go
    obtain ⟨e1, e2⟩ := refs_back rv fun x m => by
      obtain ⟨t, e, _⟩ := hx x m
      exact ⟨t, e⟩
    refine go (k' := fun u => k (backV u)) (fun v hv => ?_) fun h' d out h1 h2 kp hd hn => ?_
    · obtain ⟨t, rfl⟩ := e2 v hv
      have hm : V.ref t ∈ xs := by rw [e1]; exact List.mem_map.mpr ⟨_, hv, rfl⟩
      obtain ⟨t', e, ht, hne⟩ := hx _ hm
      cases e
      obtain ⟨its2, r2, ⟨o, ho, hc, n, hd⟩, _⟩ := I.tuple ht
      exact ⟨⟨t, o, its2.toArray, n, rfl, ho, hc, hd, by show Vals ((k (V.ref t)).map V.int) its2.toArray.toList; simpa using r2⟩, hne⟩
    · have h3 : ∀ u ∈ out, ∃ a, u = Value.ref a := fun u hu => e2 u (h2.perm.mem_iff.mp hu)
      obtain ⟨n, hn⟩ := hn
      have hb : SrtO.Stb (fun x y => lexL (k x) (k y)) (out.map backV) xs := by
        rw [e1]
        exact SrtO.Stb.map (swo_lexL k) backV h2
      refine ⟨.ref d, upd H d (.lst (out.map backV)), I.laid (t' := s.toks) kp hd ⟨?_, out, n, vals_back h3, hn⟩, rfl, q _ d (SrtO.srtd_map h1) hb (I.hok.fresh hd)⟩
      rw [hb.len]
      exact hz
  rcases hs with hs | hs
  · obtain ⟨its, rv, hl, hz⟩ := I.list hs
    exact core its rv hz fun hp h => sorted_rows hl.isList (by rw [← rv.length]; exact hz) hp h
  · obtain ⟨its, rv, hl, hz⟩ := I.tuple hs
    refine core its rv hz fun {k' Q'} hp h => sorted_ordT (swo_lexL k') hl (by rw [← rv.length]; exact hz) (fun h2 h₁ a ha kk => ?_) fun out hs hb => ?_
    · refine rows_sortableO (s := { s with heap := h₁ }) (by omega) (fun v hm => ⟨(hp v hm).1.keeps fun b o e _ => (kk b o e).2, (hp v hm).2⟩) fun o e => ?_
      have e' : some o = some (seqObj "list" its.toArray 0) := e.symm.trans ha
      cases e'
      intro c
      exact absurd (Value.type.inj c) (by decide)
    · exact h _ _ out hs hb (fun b o e => sortedAll_old e) (Nat.le_succ _) (sortedAll_at s.heap its out.toArray)
end rule
end PF

namespace PF
open PySem PySem.Spec PyProof.Rows L2
variable [Tab]
/-! ### sorted over data: rows of ints, none empty -/
def rowD (ns : List Int) : D := .tup (ns.map D.int)
def rowOf : D → Option (List Int)
  | .tup xs => match intsOf xs with
    | some (n :: ns) => some (n :: ns)
    | _ => none
  | _ => none
def rowsOf : List D → Option (List (List Int))
  | [] => some []
  | d :: ds => match rowOf d, rowsOf ds with
    | some r, some rs => some (r :: rs)
    | _, _ => none
theorem rowOf_eq {d : D} {r : List Int} (h : rowOf d = some r) : d = rowD r ∧ r ≠ [] := by
  cases d <;> simp only [rowOf] at h <;> try cases h
  split at h
  · rename_i n ns h1
    cases h
    exact ⟨by rw [rowD, ← intsOf_eq h1], by simp⟩
  · cases h
theorem rowsOf_eq : ∀ {ds : List D} {rs : List (List Int)}, rowsOf ds = some rs → ds = rs.map rowD ∧ ∀ r ∈ rs, r ≠ []
  | [], rs, h => by simp only [rowsOf] at h; cases h; exact ⟨rfl, by simp⟩
  | d :: ds, rs, h => by
    simp only [rowsOf] at h
    split at h
    · rename_i r rs' h1 h2
      cases h
      obtain ⟨e1, n1⟩ := rowOf_eq h1
      obtain ⟨e2, n2⟩ := rowsOf_eq h2
      exact ⟨by rw [e1, e2, List.map_cons], fun q hq => by
        rcases List.mem_cons.mp hq with rfl | hq
        · exact n1
        · exact n2 q hq⟩
    · cases h
def isortR : List (List Int) → List (List Int)
  | [] => []
  | x :: xs => ins x (isortR xs)
where ins (x : List Int) : List (List Int) → List (List Int)
  | [] => [x]
  | y :: ys => if lexL y x = true then y :: ins x ys else x :: y :: ys
theorem insR_perm (x : List Int) : ∀ ys : List (List Int), (isortR.ins x ys).Perm (x :: ys)
  | [] => .refl _
  | y :: ys => by
    unfold isortR.ins
    split
    · exact ((insR_perm x ys).cons y).trans (.swap x y ys)
    · exact .refl _
theorem isortR_perm : ∀ xs : List (List Int), (isortR xs).Perm xs
  | [] => .refl _
  | x :: xs => (insR_perm x _).trans ((isortR_perm xs).cons x)
abbrev SdR (l : List (List Int)) : Prop := l.Pairwise fun x y => lexL y x = false
theorem insR_sorted (x : List Int) : ∀ {ys : List (List Int)}, SdR ys → SdR (isortR.ins x ys)
  | [], _ => by unfold isortR.ins; exact List.pairwise_singleton _ _
  | y :: ys, h => by
    unfold isortR.ins
    obtain ⟨h1, h2⟩ := List.pairwise_cons.mp h
    split
    · rename_i hl
      refine List.pairwise_cons.mpr ⟨fun z hz => ?_, insR_sorted x h2⟩
      rcases List.mem_cons.mp ((insR_perm x ys).mem_iff.mp hz) with rfl | hz
      · exact lexL_asym _ _ hl
      · exact h1 z hz
    · rename_i hl
      have hl : lexL y x = false := by simpa using hl
      refine List.pairwise_cons.mpr ⟨fun z hz => ?_, h⟩
      rcases List.mem_cons.mp hz with rfl | hz
      · exact hl
      · exact lexL_tr _ _ _ hl (h1 z hz)
theorem isortR_sorted : ∀ xs : List (List Int), SdR (isortR xs)
  | [] => .nil
  | x :: xs => insR_sorted x (isortR_sorted xs)
theorem lexL_anti : ∀ xs ys, lexL xs ys = false → lexL ys xs = false → xs = ys
  | [], [], _, _ => rfl
  | [], _ :: _, h, _ => by cases h
  | _ :: _, [], _, h => by cases h
  | x :: xs, y :: ys, h1, h2 => by
    simp only [lexL] at h1 h2
    by_cases e : x = y
    · rw [if_pos e] at h1; rw [if_pos e.symm] at h2
      rw [e, lexL_anti xs ys h1 h2]
    · rw [if_neg e] at h1; rw [if_neg (fun q => e q.symm)] at h2
      simp at h1 h2; omega
theorem sdR_unique : ∀ {xs ys : List (List Int)}, xs.Perm ys → SdR xs → SdR ys → xs = ys
  | [], ys, p, _, _ => p.symm.eq_nil.symm
  | x :: xs, [], p, _, _ => p.eq_nil
  | x :: xs, y :: ys, p, hx, hy => by
    obtain ⟨hx1, hx2⟩ := List.pairwise_cons.mp hx
    obtain ⟨hy1, hy2⟩ := List.pairwise_cons.mp hy
    have e : x = y := by
      have h1 : x ∈ y :: ys := p.mem_iff.mp List.mem_cons_self
      have h2 : y ∈ x :: xs := p.mem_iff.mpr List.mem_cons_self
      rcases List.mem_cons.mp h1 with h | h
      · exact h
      · rcases List.mem_cons.mp h2 with h' | h'
        · exact h'.symm
        · exact lexL_anti _ _ (hy1 x h) (hx1 y h')
    subst e
    rw [sdR_unique (List.perm_cons x |>.mp p) hx2 hy2]
/-- things and their rows -/
def AlR (K : PySem.W.Frag) (H : Hp) : List V → List (List Int) → Prop
  | [], [] => True
  | x :: xs, r :: rs => (∃ t, x = V.ref t ∧ SqT K H t (r.map V.int) ∧ r ≠ []) ∧ AlR K H xs rs
  | _, _ => False
def rSortZ (K : PySem.W.Frag) : List V → Hp → VK → Prop := fun vs H Q => ∃ (a : Addr) (xs : List V) (rs : List (List Int)), vs = [V.ref a] ∧ (SqL K H a xs ∨ SqT K H a xs) ∧ AlR K H xs rs ∧
  ∀ (ps : List (V × List Int)) p, ps.Perm (xs.zip rs) → SdR (ps.map Prod.snd) → H p = none → Q (.ref p) (upd H p (.lst (ps.map Prod.fst)))
section rule
variable {X : Cx}
theorem sqT_uniq {pins : List (Addr × Obj)} {σ : L2.St} {H : Hp} {s : Shared} {t : Addr} {xs ys : List V} (I : Inv X pins σ H s) (h1 : SqT X.K H t xs) (h2 : SqT X.K H t ys) : xs = ys := by
  obtain ⟨i1, r1, ⟨o1, e1, c1, n1, d1⟩, _⟩ := I.tuple h1
  obtain ⟨i2, r2, ⟨o2, e2, c2, n2, d2⟩, _⟩ := I.tuple h2
  cases e1.symm.trans e2
  have := d1.symm.trans d2
  injection this with e
  have e : i1 = i2 := by simpa using e
  subst e
  exact r1.inj r2
theorem map_int_inj : ∀ {xs ys : List Int}, xs.map V.int = ys.map V.int → xs = ys
  | [], [], _ => rfl
  | [], _ :: _, h => by cases h
  | _ :: _, [], h => by cases h
  | x :: xs, y :: ys, h => by
    simp only [List.map_cons, List.cons.injEq, V.int.injEq] at h
    rw [h.1, map_int_inj h.2]
theorem zip_keys {K : PySem.W.Frag} {H : Hp} {k : V → List Int} (hk : ∀ (t : Addr) (r : List Int), SqT K H t (r.map V.int) → k (.ref t) = r) : ∀ {xs : List V} {rs : List (List Int)}, AlR K H xs rs → xs.zip rs = xs.map (fun x => (x, k x)) ∧ ∀ x ∈ xs, ∃ t, x = V.ref t ∧ SqT K H t ((k x).map V.int) ∧ k x ≠ []
  | [], [], _ => ⟨rfl, by simp⟩
  | [], _ :: _, h => h.elim
  | _ :: _, [], h => h.elim
  | x :: xs, r :: rs, h => by
    obtain ⟨⟨t, rfl, h1, h2⟩, h3⟩ := h
    obtain ⟨e, q⟩ := zip_keys hk h3
    have ek := hk t r h1
    refine ⟨by rw [List.zip_cons_cons, e, List.map_cons, ek], fun y hy => ?_⟩
    rcases List.mem_cons.mp hy with rfl | hy
    · exact ⟨t, rfl, by rw [ek]; exact h1, by rw [ek]; exact h2⟩
    · exact q y hy
open Classical in
theorem cr_sortZ : CallR X (.builtin "sorted") (rSortZ X.K) := by
  intro pins s σ H vs us Q I r h
  obtain ⟨a, xs, rs, rfl, hs, ha, q⟩ := h
  let k : V → List Int := fun x => match x with
    | .ref t => if h : ∃ ns : List Int, SqT X.K H t (ns.map V.int) then h.choose else []
    | _ => []
  have hk : ∀ (t : Addr) (r : List Int), SqT X.K H t (r.map V.int) → k (.ref t) = r := fun t r h => by
    have hx : ∃ ns : List Int, SqT X.K H t (ns.map V.int) := ⟨r, h⟩
    show (if h : ∃ ns : List Int, SqT X.K H t (ns.map V.int) then h.choose else []) = r
    rw [dif_pos hx]
    exact map_int_inj (sqT_uniq I hx.choose_spec h)
  obtain ⟨e, hx⟩ := zip_keys hk ha
  refine cr_sortR pins s σ H _ us Q I r ⟨a, xs, k, rfl, hs, hx, fun ys p h1 h2 hp => ?_⟩
  have := q (ys.map fun x => (x, k x)) p (by rw [e]; exact h2.perm.map _) (by rw [List.map_map]; exact List.pairwise_map.mpr h1) hp
  rw [List.map_map] at this
  have e2 : (ys.map (Prod.fst ∘ fun x => (x, k x))) = ys := by
    have : (Prod.fst ∘ fun x => (x, k x)) = (id : V → V) := rfl
    rw [this, List.map_id]
  rw [e2] at this
  exact this
end rule
def gSortR (mu : Bool) : GA := fun ds S => match ds with
  | [d] => match sqOf S d with
    | some xs => match rowsOf xs with
      | some rs => some (newL mu ((isortR rs).map rowD) S)
      | none => none
    | none => none
  | _ => none
section data
variable {K : PySem.W.Frag}
theorem al_of {W : Wd} {H : Hp} : ∀ {rs : List (List Int)} {ys : List V}, (∀ r ∈ rs, r ≠ []) → DRels K W H (rs.map rowD) ys → AlR K H ys rs ∧ ∀ p ∈ ys.zip rs, DRel K W H (rowD p.2) p.1
  | [], ys, _, h => by
    have := h.length
    cases ys with
    | nil => exact ⟨trivial, by simp⟩
    | cons y ys => simp at this
  | r :: rs, [], _, h => by have := h.length; simp at this
  | r :: rs, y :: ys, hn, h => by
    rw [List.map_cons] at h
    unfold DRels at h
    obtain ⟨v, vs, e, h1, h2⟩ := h
    cases e
    obtain ⟨q1, q2⟩ := al_of (fun r hr => hn r (by simp [hr])) h2
    obtain ⟨a, e, h3⟩ := tup_ints h1 (intsOf_map r)
    refine ⟨⟨⟨a, e, h3, hn r (by simp)⟩, q1⟩, fun p hp => ?_⟩
    rcases List.mem_cons.mp hp with rfl | hp
    · exact h1
    · exact q2 p hp
theorem drels_pairs {W : Wd} {H : Hp} : ∀ {ps : List (V × List Int)}, (∀ p ∈ ps, DRel K W H (rowD p.2) p.1) → DRels K W H ((ps.map Prod.snd).map rowD) (ps.map Prod.fst)
  | [], _ => .nil
  | p :: ps, h => .cons (h p (by simp)) (drels_pairs fun q hq => h q (by simp [hq]))
theorem zip_snd {K : PySem.W.Frag} {H : Hp} : ∀ {xs : List V} {rs : List (List Int)}, AlR K H xs rs → (xs.zip rs).map Prod.snd = rs
  | [], [], _ => rfl
  | [], _ :: _, h => h.elim
  | _ :: _, [], h => h.elim
  | x :: xs, r :: rs, h => by rw [List.zip_cons_cons, List.map_cons, zip_snd h.2]
theorem cd_sortR (mu : Bool) : CallD K (rSortZ K) (gSortR mu) := by
  intro W H S vs ds Q s r p
  unfold gSortR at p
  split at p
  · obtain ⟨v, rfl, h1⟩ := drels1 r
    split at p
    · rename_i xs hx
      split at p
      · rename_i rs h3
        obtain ⟨a, ys, rfl, hs, hd⟩ := sqOf_rel s h1 hx
        obtain ⟨e, hn⟩ := rowsOf_eq h3
        rw [e] at hd
        obtain ⟨q1, q2⟩ := al_of hn hd
        refine ⟨a, ys, rs, rfl, hs, q1, fun ps b hp hsd hb => ?_⟩
        have e2 : ps.map Prod.snd = isortR rs := sdR_unique (((hp.map Prod.snd).trans (by rw [zip_snd q1])).trans (isortR_perm rs).symm) hsd (isortR_sorted rs)
        refine new_list mu s ?_ p hb
        rw [← e2]
        exact drels_pairs fun z hz => q2 z (hp.mem_iff.mp hz)
      · exact p.elim
    · exact p.elim
  · exact p.elim
/-- sorted: a list of ints, or rows -/
def gSortA (mu : Bool) : GA := fun ds S => match gSorted mu ds S with
  | some r => some r
  | none => gSortR mu ds S
theorem cd_sortA (mu : Bool) : CallD K (fun vs H Q => rSortedI K vs H Q ∨ rSortZ K vs H Q) (gSortA mu) := by
  intro W H S vs ds Q s r p
  unfold gSortA at p
  cases h : gSorted mu ds S with
  | some x =>
    rw [h] at p
    exact .inl (cd_sorted mu W H S vs ds Q s r (by rw [h]; exact p))
  | none =>
    rw [h] at p
    exact .inr (cd_sortR mu W H S vs ds Q s r p)
end data
end PF

namespace PF
open PySem PySem.Spec PyProof.Rows L2
variable [Tab]
/-- what is never come to -/
def fDead : FS := fun _ _ => .no
theorem pfs_dead {X : Cx} {Wx : WX} {st : Stmt} : PFS X Wx st fDead := ⟨fun W H σ en S Z he hs hp => hp.elim⟩
end PF

namespace PF
open PySem PySem.Spec PyProof.Rows L2
section
variable {prog : Program} {w : World} {A : Around} {E : Value → Shared → Prop} {s : Shared}
/-! ### a list unpacked -/
theorem draw_listU {it t : Addr} {items : Array Value} (hne : t ≠ it) : ∀ (n i : Nat) (s : Shared) (Q : List Value → Shared → Prop), s.heap.IsListIter it t i → s.heap.IsList t items → i + n ≤ items.size →
    (∀ h' : Heap, h'.IsListIter it t (i + n) → Heap.SameBut it s.heap h' → Q ((items.toList.drop i).take n) { s with heap := h' }) → wpAny (model prog w) A (draw (.ref it) n) Q E s
  | 0, i, s, Q, hit, _, _, hQ => by
    show wpAny _ _ (pure []) Q E s
    exact wpAny_pure (by simpa using hQ s.heap hit (Heap.SameBut.refl ..))
  | n + 1, i, s, Q, hit, ht, hle, hQ => by
    have hlt : i < items.size := by omega
    show wpAny _ _ (pyNext (.ref it) >>= _) Q E s
    refine wpAny_bind (wpAny_pyNext_list_item hit ht (x := items[i]) (by simp [hlt]) fun h₁ hit₁ hs₁ => ?_)
    refine wpAny_bind (wpAny_holding (draw_listU hne n (i + 1) _ _ hit₁ (ht.extBut hs₁.extBut hne) (by omega) fun h₂ hit₂ hs₂ => wpAny_pure ?_))
    have hd : items.toList.drop i = items[i] :: items.toList.drop (i + 1) := by simp [List.drop_eq_getElem_cons, hlt]
    have := hQ h₂ (by rw [show i + (n + 1) = i + 1 + n by omega]; exact hit₂) (hs₁.trans hs₂)
    rw [hd, List.take_succ_cons] at this
    exact this
theorem unpackItems_listU {t : Addr} {items : Array Value} {Q : List Value → Shared → Prop} (hh : A.handled = none) (ht : s.heap.IsList t items)
    (hQ : ∀ h', Heap.ExtBut s.heap.objs.size s.heap h' → Q items.toList { s with heap := h' }) : wpAny (model prog w) A (unpackItems (.ref t) items.size none) Q E s := by
  have hlt : t ≠ s.heap.objs.size := by obtain ⟨o, ho, _⟩ := ht; exact Nat.ne_of_lt (Heap.lt_size ho)
  unfold unpackItems
  refine wpAny_bind ?_
  · unfold notIterableAtAll
    refine wpAny_bind (wpAny_specialOf ht.typeIs slot_list_iter.lookup ?_)
    refine wpAny_pure ?_
    simp only [Bool.false_eq_true, if_false]
    refine wpAny_bind (wpAny_holding (wpAny_pyIter_list ht ?_))
    refine wpAny_bind (wpAny_holding (draw_listU hlt items.size 0 _ _ ⟨_, Heap.get?_push_size _ rfl, rfl, rfl⟩ (ht.push _) (by omega) fun h₁ hit₁ hs₁ => ?_))
    have hall : List.take items.size (List.drop 0 items.toList) = items.toList := by
      rw [List.drop_zero]; exact List.take_of_length_le (by simp)
    rw [hall]
    rw [if_neg (by simp)]
    have ht₁ : h₁.IsList t items := (ht.push _).extBut hs₁.extBut hlt
    refine wpAny_bind (wpAny_holding (wpAny_pyNext_list_end hh hit₁ ht₁ (by simp) fun h₂ he₂ => ?_))
    simp only [Option.isSome_none, Bool.false_eq_true, if_false]
    refine wpAny_pure (hQ h₂ fun b o hb e => he₂ b o hb (hs₁.extBut b o hb (Heap.get?_push_of_some _ e)))
theorem assign_Tuple_listU {env : PySem.Env} {elts : List Expr} {x1} {pos : Pos} {t : Addr} {items : Array Value} {Q : Unit → Shared → Prop} (hh : A.handled = none) (ht : s.heap.IsList t items)
    (hn : (assignEach elts env).length = items.size) (hstar : (assignEach elts env).findIdx? (·.1) = none)
    (h : ∀ h', Heap.ExtBut s.heap.objs.size s.heap h' → wpAny (model prog w) A (assignInOrder ((assignEach elts env).map (·.2)) items.toList) Q E { s with heap := h' }) :
    wpAny (model prog w) A (assign (.Tuple elts x1 pos) env (.ref t)) Q E s := by
  rw [assign_Tuple]
  refine wpAny_bind (wpAny_standAt ?_)
  unfold unpack
  rw [hn, hstar]
  exact wpAny_bind (wpAny_holding (unpackItems_listU hh ht h))
end
section
variable {X : Cx} {pos : Pos}
def gLstU (K : PySem.W.Frag) (n : Nat) (t : TGs) : TG := fun v σ H Q => ∃ a xs, v = .ref a ∧ SqL K H a xs ∧ xs.length = n ∧ t xs σ H Q
theorem pg_lstU {es : List Expr} {k : Nat} {t : TGs} {n : Nat} (hc : X.calm = true) (h : PGs X es t)
    (hn : (assignEach es X.env).length = n := by rfl) (hst : (assignEach es X.env).findIdx? (·.1) = none := by rfl) : PG X (.Tuple es k pos) (gLstU X.K n t) := by
  refine ⟨fun pins s σ H v u Q I r hw => ?_⟩
  obtain ⟨a, xs, e1, hq, hl, hw⟩ := hw
  subst e1
  cases r
  obtain ⟨its, rv, ht, hz⟩ := I.list hq
  refine assign_Tuple_listU (I.ok.hd hc) ht.isList (by simp [hn, ← hl, rv.length]) hst fun h' hx => ?_
  have I1 : Inv X pins σ H { s with heap := h' } := I.kept (t' := s.toks) fun b o e => hx b o (Nat.ne_of_lt (Heap.lt_size e)) e
  exact h.run pins _ σ H xs _ Q I1 (by simpa using rv) hw
end
variable [Tab]
section
variable {X : Cx} {pos : Pos}
/-- (a, b, ..) = a list of that length -/
def gtLst (n : Nat) (g : FGs) : FG := fun d en S => match d with
  | .lst ds => if ds.length = n then g ds en S else none
  | _ => none
theorem pfg_lst {es : List Expr} {k : Nat} {g : FGs} {n : Nat} (hc : X.calm = true) (h : PFGs X es g) (hn : (assignEach es X.env).length = n := by rfl) (hst : (assignEach es X.env).findIdx? (·.1) = none := by rfl) : PFG X (.Tuple es k pos) (gtLst n g) := by
  refine ⟨fun W H σ en S d v Q he hs' r hp => PG_w (pg_lstU hc pgs_w hn hst) ?_⟩
  cases d with
  | lst ds =>
    unfold DRel at r
    obtain ⟨a, vs, rfl, r1, r2⟩ := r
    simp only [gtLst] at hp
    split at hp
    · rename_i hl
      exact ⟨a, vs, rfl, r1.sq, by rw [← r2.length]; exact hl, h.run W H σ en S ds vs Q he hs' r2 hp⟩
    · exact hp.elim
  | _ => exact hp.elim
end
end PF

/-! A reading by values: what a def owns is told by the value itself, no store. -/
namespace VF
open PySem L2 PF
/-- values: plain data, and what is owned (lists, dicts, instances) -/
inductive M where
  | val (d : D) | lst (ms : List M) | dic (ks : List Key) (ms : List M) | ins (C : Addr) (ns : List Str) (ms : List M)
mutual
def nr : D → Bool
  | .ref _ => false
  | .tup ds => nrs ds
  | .lst ds => nrs ds
  | _ => true
def nrs : List D → Bool
  | [] => true
  | d :: ds => nr d && nrs ds
end
mutual
def Rep (S : So) : M → D → List Nat → Prop
  | .val d, e, A => e = d ∧ nr d = true ∧ A = []
  | .lst ms, e, A => ∃ n ds B, e = .ref n ∧ S[n]? = some (.lst ds) ∧ Reps S ms ds B ∧ A = n :: B
  | .dic ks ms, e, A => ∃ n ds B, e = .ref n ∧ S[n]? = some (.dic ds) ∧ ds.map (·.1) = ks ∧ Reps S ms (ds.map (·.2)) B ∧ A = n :: B
  | .ins C ns ms, e, A => ∃ n fs B, e = .ref n ∧ S[n]? = some (.ins C fs) ∧ ns.Nodup ∧ fs.map (·.1) = ns.take fs.length ∧ Reps S ms (fs.map (·.2)) B ∧ A = n :: B
def Reps (S : So) : List M → List D → List Nat → Prop
  | [], es, A => es = [] ∧ A = []
  | m :: ms, es, A => ∃ e r B1 B2, es = e :: r ∧ Rep S m e B1 ∧ Reps S ms r B2 ∧ A = B1 ++ B2
end
mutual
theorem Rep.frame {S S' : So} : ∀ {m : M} {d : D} {A : List Nat}, Rep S m d A → (∀ n ∈ A, S'[n]? = S[n]?) → Rep S' m d A
  | .val d, e, A, h, f => by unfold Rep at h ⊢; exact h
  | .lst ms, e, A, h, f => by
    unfold Rep at h ⊢
    obtain ⟨n, ds, B, h1, h2, h3, rfl⟩ := h
    exact ⟨n, ds, B, h1, by rw [f n (by simp)]; exact h2, Reps.frame h3 (fun k hk => f k (by simp [hk])), rfl⟩
  | .dic ks ms, e, A, h, f => by
    unfold Rep at h ⊢
    obtain ⟨n, ds, B, h1, h2, h3, h4, rfl⟩ := h
    exact ⟨n, ds, B, h1, by rw [f n (by simp)]; exact h2, h3, Reps.frame h4 (fun k hk => f k (by simp [hk])), rfl⟩
  | .ins C ns ms, e, A, h, f => by
    unfold Rep at h ⊢
    obtain ⟨n, ds, B, h1, h2, h3, h5, h4, rfl⟩ := h
    exact ⟨n, ds, B, h1, by rw [f n (by simp)]; exact h2, h3, h5, Reps.frame h4 (fun k hk => f k (by simp [hk])), rfl⟩
theorem Reps.frame {S S' : So} : ∀ {m : List M} {d : List D} {A : List Nat}, Reps S m d A → (∀ n ∈ A, S'[n]? = S[n]?) → Reps S' m d A
  | [], e, A, h, f => by unfold Reps at h ⊢; exact h
  | m :: ms, e, A, h, f => by
    unfold Reps at h ⊢
    obtain ⟨e, r, B1, B2, h1, h2, h3, rfl⟩ := h
    exact ⟨e, r, B1, B2, h1, Rep.frame h2 (fun k hk => f k (by simp [hk])), Reps.frame h3 (fun k hk => f k (by simp [hk])), rfl⟩
end
mutual
theorem Rep.lt {S : So} : ∀ {m : M} {d : D} {A : List Nat}, Rep S m d A → ∀ n ∈ A, n < S.length
  | .val d, e, A, h => by unfold Rep at h; obtain ⟨_, _, rfl⟩ := h; intro n hn; cases hn
  | .lst ms, e, A, h => by
    unfold Rep at h
    obtain ⟨n, ds, B, h1, h2, h3, rfl⟩ := h
    intro k hk
    rcases List.mem_cons.mp hk with rfl | hk
    · exact (List.getElem?_eq_some_iff.mp h2).1
    · exact Reps.lt h3 k hk
  | .dic ks ms, e, A, h => by
    unfold Rep at h
    obtain ⟨n, ds, B, h1, h2, h3, h4, rfl⟩ := h
    intro k hk
    rcases List.mem_cons.mp hk with rfl | hk
    · exact (List.getElem?_eq_some_iff.mp h2).1
    · exact Reps.lt h4 k hk
  | .ins C ns ms, e, A, h => by
    unfold Rep at h
    obtain ⟨n, ds, B, h1, h2, h3, h5, h4, rfl⟩ := h
    intro k hk
    rcases List.mem_cons.mp hk with rfl | hk
    · exact (List.getElem?_eq_some_iff.mp h2).1
    · exact Reps.lt h4 k hk
theorem Reps.lt {S : So} : ∀ {m : List M} {d : List D} {A : List Nat}, Reps S m d A → ∀ n ∈ A, n < S.length
  | [], e, A, h => by unfold Reps at h; obtain ⟨_, rfl⟩ := h; intro n hn; cases hn
  | m :: ms, e, A, h => by
    unfold Reps at h
    obtain ⟨e, r, B1, B2, h1, h2, h3, rfl⟩ := h
    intro k hk
    rcases List.mem_append.mp hk with hk | hk
    · exact Rep.lt h2 k hk
    · exact Reps.lt h3 k hk
end
section reps
variable {S : So}
theorem Reps.nil : Reps S [] [] [] := by unfold Reps; exact ⟨rfl, rfl⟩
theorem Reps.cons {m : M} {ms : List M} {d : D} {ds : List D} {A B : List Nat} (h : Rep S m d A) (k : Reps S ms ds B) : Reps S (m :: ms) (d :: ds) (A ++ B) := by
  unfold Reps; exact ⟨d, ds, A, B, rfl, h, k, rfl⟩
theorem Reps.length : ∀ {ms : List M} {ds : List D} {A : List Nat}, Reps S ms ds A → ms.length = ds.length
  | [], ds, A, h => by unfold Reps at h; simp [h.1]
  | m :: ms, ds, A, h => by
    unfold Reps at h
    obtain ⟨e, r, B1, B2, rfl, h2, h3, rfl⟩ := h
    simp [Reps.length h3]
theorem Reps.append : ∀ {ms ms' : List M} {ds ds' : List D} {A A' : List Nat}, Reps S ms ds A → Reps S ms' ds' A' → Reps S (ms ++ ms') (ds ++ ds') (A ++ A')
  | [], ms', ds, ds', A, A', h, k => by unfold Reps at h; obtain ⟨rfl, rfl⟩ := h; exact k
  | m :: ms, ms', ds, ds', A, A', h, k => by
    unfold Reps at h
    obtain ⟨e, r, B1, B2, rfl, h2, h3, rfl⟩ := h
    have := Reps.cons h2 (Reps.append h3 k)
    simpa using this
/-- the one at a place, and what may stand there instead -/
theorem Reps.at : ∀ {ms : List M} {ds : List D} {A : List Nat} {j : Nat} {m : M}, Reps S ms ds A → ms[j]? = some m →
    ∃ d A1 A' A2, ds[j]? = some d ∧ A = A1 ++ A' ++ A2 ∧ Rep S m d A' ∧
      ∀ (S2 : So) (m2 : M) (d2 : D) (B : List Nat), (∀ n ∈ A1 ++ A2, S2[n]? = S[n]?) → Rep S2 m2 d2 B → Reps S2 (ms.set j m2) (ds.set j d2) (A1 ++ B ++ A2)
  | [], ds, A, j, m, h, e => by simp at e
  | m0 :: ms, ds, A, 0, m, h, e => by
    unfold Reps at h
    obtain ⟨d, r, B1, B2, rfl, h2, h3, rfl⟩ := h
    simp at e; subst e
    refine ⟨d, [], B1, B2, rfl, by simp, h2, fun S2 m2 d2 B f k => ?_⟩
    simpa using Reps.cons k (h3.frame (fun n hn => f n (by simpa using hn)))
  | m0 :: ms, ds, A, j + 1, m, h, e => by
    unfold Reps at h
    obtain ⟨d0, r, B1, B2, rfl, h2, h3, rfl⟩ := h
    obtain ⟨d, A1, A', A2, g1, g2, g3, g4⟩ := Reps.at h3 (show ms[j]? = some m by simpa using e)
    subst g2
    refine ⟨d, B1 ++ A1, A', A2, by simpa using g1, by simp, g3, fun S2 m2 d2 B f k => ?_⟩
    have := Reps.cons (h2.frame (fun n hn => f n (by simp [hn]))) (g4 S2 m2 d2 B (fun n hn => f n (by simp only [List.mem_append] at hn ⊢; rcases hn with hn | hn <;> simp [hn])) k)
    simpa using this
theorem Rep.val {d : D} (h : nr d = true) : Rep S (.val d) d [] := by unfold Rep; exact ⟨rfl, h, rfl⟩
theorem nrs_get : ∀ {ds : List D} {j : Nat} {d : D}, nrs ds = true → ds[j]? = some d → nr d = true
  | [], j, d, h, e => by simp at e
  | d0 :: ds, 0, d, h, e => by simp only [nrs, Bool.and_eq_true] at h; simp at e; subst e; exact h.1
  | d0 :: ds, j + 1, d, h, e => by simp only [nrs, Bool.and_eq_true] at h; exact nrs_get h.2 (by simpa using e)
theorem nrs_mem {ds : List D} {d : D} (h : nrs ds = true) (k : d ∈ ds) : nr d = true := by
  obtain ⟨j, hj⟩ := List.getElem?_of_mem k
  exact nrs_get h hj
theorem nrs_all : ∀ {ds : List D}, (∀ d ∈ ds, nr d = true) → nrs ds = true
  | [], h => rfl
  | d :: ds, h => by simp only [nrs, Bool.and_eq_true]; exact ⟨h d (by simp), nrs_all (fun e he => h e (by simp [he]))⟩
theorem nrs_iff {ds : List D} : nrs ds = true ↔ ∀ d ∈ ds, nr d = true := ⟨fun h d k => nrs_mem h k, nrs_all⟩
theorem nrs_app {a b : List D} (h : nrs a = true) (k : nrs b = true) : nrs (a ++ b) = true := nrs_all fun d hd => (List.mem_append.mp hd).elim (nrs_mem h) (nrs_mem k)
theorem nrs_sub {a b : List D} (h : nrs a = true) (k : ∀ d ∈ b, d ∈ a) : nrs b = true := nrs_all fun d hd => nrs_mem h (k d hd)
theorem nrs_ints (ns : List Int) : nrs (ns.map D.int) = true := nrs_all fun d hd => by
  obtain ⟨n, _, rfl⟩ := List.mem_map.mp hd; rfl
theorem Reps.vals : ∀ {ds : List D}, nrs ds = true → Reps S (ds.map M.val) ds []
  | [], h => Reps.nil
  | d :: ds, h => by
    simp only [nrs, Bool.and_eq_true] at h
    exact Reps.cons (Rep.val h.1) (Reps.vals h.2)
theorem Reps.vals_of : ∀ {ds es : List D} {A : List Nat}, Reps S (ds.map M.val) es A → es = ds ∧ nrs ds = true ∧ A = []
  | [], es, A, h => by simp only [List.map_nil] at h; unfold Reps at h; exact ⟨h.1, rfl, h.2⟩
  | d :: ds, es, A, h => by
    simp only [List.map_cons] at h
    unfold Reps at h
    obtain ⟨e, r, B1, B2, rfl, h2, h3, rfl⟩ := h
    unfold Rep at h2
    obtain ⟨rfl, h4, rfl⟩ := h2
    obtain ⟨rfl, h5, rfl⟩ := Reps.vals_of h3
    exact ⟨rfl, by simp [nrs, h4, h5], rfl⟩
end reps
/-! ### no number twice -/
def Nd (A : List Nat) : Prop := ∀ a, A.count a ≤ 1
theorem Nd.le {A B : List Nat} (h : Nd A) (k : ∀ a, B.count a ≤ A.count a) : Nd B := fun a => Nat.le_trans (k a) (h a)
theorem Nd.nil : Nd [] := fun a => by simp
theorem Nd.left {A B : List Nat} (h : Nd (A ++ B)) : Nd A := h.le fun a => by rw [List.count_append]; omega
theorem Nd.right {A B : List Nat} (h : Nd (A ++ B)) : Nd B := h.le fun a => by rw [List.count_append]; omega
theorem Nd.not {A B : List Nat} {n : Nat} (h : Nd (A ++ B)) (k : n ∈ A) : n ∉ B := fun q => by
  have := h n
  rw [List.count_append] at this
  have := List.count_pos_iff.mpr k
  have := List.count_pos_iff.mpr q
  omega
theorem Nd.comm {A B : List Nat} (h : Nd (A ++ B)) : Nd (B ++ A) := h.le fun a => by simp only [List.count_append]; omega
/-- two parts without a common one -/
theorem Nd.app {A B : List Nat} (h : Nd A) (k : Nd B) (d : ∀ n ∈ A, n ∉ B) : Nd (A ++ B) := fun a => by
  rw [List.count_append]
  have h1 := h a; have h2 := k a
  by_cases c : a ∈ A
  · have := List.count_eq_zero_of_not_mem (d a c); omega
  · have := List.count_eq_zero_of_not_mem c; omega
theorem Nd.one (n : Nat) : Nd [n] := fun a => by
  rw [List.count_singleton]; split <;> omega
/-! ### environments -/
/-- names: what they own; names that look at a part of what another name (its number stands second) owns -/
structure Env where
  o : List (Option M)
  b : List (Nat × Nat × M)
def SlotR (S : So) (x : Option M) (e : Option D) (A : List Nat) : Prop := match x with
  | none => A = []
  | some m => ∃ d, e = some d ∧ Rep S m d A
def SlotsR (S : So) : List (Option M) → En → List (List Nat) → Prop
  | [], en, As => en = [] ∧ As = []
  | x :: o, en, As => ∃ e r A Ar, en = e :: r ∧ As = A :: Ar ∧ SlotR S x e A ∧ SlotsR S o r Ar
def BorR (S : So) (en : En) (As : List (List Nat)) (t : Nat × Nat × M) : Prop := ∃ d A F, en[t.1]? = some (some d) ∧ Rep S t.2.2 d A ∧ As[t.2.1]? = some F ∧ ∀ n ∈ A, n ∈ F
structure EnvR (S : So) (env : Env) (en : En) (As : List (List Nat)) : Prop where
  sl : SlotsR S env.o en As
  bo : ∀ t ∈ env.b, BorR S en As t
theorem SlotR.frame {S S' : So} {x : Option M} {e : Option D} {A : List Nat} (h : SlotR S x e A) (f : ∀ n ∈ A, S'[n]? = S[n]?) : SlotR S' x e A := by
  cases x with
  | none => exact h
  | some m => obtain ⟨d, h1, h2⟩ := h; exact ⟨d, h1, h2.frame f⟩
theorem SlotsR.frame {S S' : So} : ∀ {o : List (Option M)} {en : En} {As : List (List Nat)}, SlotsR S o en As → (∀ n ∈ As.flatten, S'[n]? = S[n]?) → SlotsR S' o en As
  | [], en, As, h, f => h
  | x :: o, en, As, h, f => by
    obtain ⟨e, r, A, Ar, rfl, rfl, h1, h2⟩ := h
    exact ⟨e, r, A, Ar, rfl, rfl, h1.frame (fun n hn => f n (by simp [hn])), SlotsR.frame h2 (fun n hn => f n (by simp only [List.flatten_cons, List.mem_append]; exact .inr hn))⟩
theorem SlotsR.lt {S : So} : ∀ {o : List (Option M)} {en : En} {As : List (List Nat)}, SlotsR S o en As → ∀ n ∈ As.flatten, n < S.length
  | [], en, As, h => by obtain ⟨_, rfl⟩ := h; intro n hn; cases hn
  | x :: o, en, As, h => by
    obtain ⟨e, r, A, Ar, rfl, rfl, h1, h2⟩ := h
    intro n hn
    rw [List.flatten_cons, List.mem_append] at hn
    rcases hn with hn | hn
    · cases x with
      | none => rw [show A = [] from h1] at hn; cases hn
      | some m => obtain ⟨d, _, h4⟩ := h1; exact h4.lt n hn
    · exact SlotsR.lt h2 n hn
theorem EnvR.frame {S S' : So} {env : Env} {en : En} {As : List (List Nat)} (h : EnvR S env en As) (f : ∀ n ∈ As.flatten, S'[n]? = S[n]?) : EnvR S' env en As :=
  ⟨h.sl.frame f, fun t ht => by
    obtain ⟨d, A, F, h1, h2, h3, h4⟩ := h.bo t ht
    refine ⟨d, A, F, h1, h2.frame (fun n hn => f n ?_), h3, h4⟩
    exact List.mem_flatten.mpr ⟨F, List.mem_of_getElem? h3, h4 n hn⟩⟩
theorem EnvR.lt {S : So} {env : Env} {en : En} {As : List (List Nat)} (h : EnvR S env en As) : ∀ n ∈ As.flatten, n < S.length := h.sl.lt
theorem get_app {S J : So} {n : Nat} (h : n < S.length) : (S ++ J)[n]? = S[n]? := List.getElem?_append_left h
theorem EnvR.more {S J : So} {env : Env} {en : En} {As : List (List Nat)} (h : EnvR S env en As) : EnvR (S ++ J) env en As := h.frame fun n hn => get_app (h.lt n hn)
theorem Rep.more {S J : So} {m : M} {d : D} {A : List Nat} (h : Rep S m d A) : Rep (S ++ J) m d A := h.frame fun n hn => get_app (h.lt n hn)
theorem Reps.more {S J : So} {m : List M} {d : List D} {A : List Nat} (h : Reps S m d A) : Reps (S ++ J) m d A := h.frame fun n hn => get_app (h.lt n hn)
theorem SlotsR.get {S : So} : ∀ {o : List (Option M)} {en : En} {As : List (List Nat)} {i : Nat} {x : Option M}, SlotsR S o en As → o[i]? = some x → ∃ e A, en[i]? = some e ∧ As[i]? = some A ∧ SlotR S x e A
  | [], en, As, i, x, h, e => by simp at e
  | y :: o, en, As, 0, x, h, e => by
    obtain ⟨e', r, A, Ar, rfl, rfl, h1, h2⟩ := h
    simp at e; subst e
    exact ⟨e', A, rfl, rfl, h1⟩
  | y :: o, en, As, i + 1, x, h, e => by
    obtain ⟨e', r, A, Ar, rfl, rfl, h1, h2⟩ := h
    simpa using SlotsR.get h2 (show o[i]? = some x by simpa using e)
theorem SlotsR.len {S : So} : ∀ {o : List (Option M)} {en : En} {As : List (List Nat)}, SlotsR S o en As → en.length = o.length ∧ As.length = o.length
  | [], en, As, h => by obtain ⟨rfl, rfl⟩ := h; exact ⟨rfl, rfl⟩
  | y :: o, en, As, h => by
    obtain ⟨e', r, A, Ar, rfl, rfl, h1, h2⟩ := h
    have := SlotsR.len h2
    simp [this.1, this.2]
theorem SlotsR.set {S : So} : ∀ {o : List (Option M)} {en : En} {As : List (List Nat)} {x : Option M} {e : Option D} {A : List Nat} (i : Nat), SlotsR S o en As → SlotR S x e A → SlotsR S (o.set i x) (en.set i e) (As.set i A)
  | [], en, As, x, e, A, i, h, k => by obtain ⟨rfl, rfl⟩ := h; exact ⟨rfl, rfl⟩
  | y :: o, en, As, x, e, A, 0, h, k => by
    obtain ⟨e', r, A', Ar, rfl, rfl, h1, h2⟩ := h
    exact ⟨e, r, A, Ar, rfl, rfl, k, h2⟩
  | y :: o, en, As, x, e, A, i + 1, h, k => by
    obtain ⟨e', r, A', Ar, rfl, rfl, h1, h2⟩ := h
    exact ⟨e', r.set i e, A', Ar.set i A, rfl, rfl, h1, SlotsR.set i h2 k⟩
/-- the same names at L1, another owned thing -/
theorem SlotsR.upd {S : So} : ∀ {o : List (Option M)} {en : En} {As : List (List Nat)} {x : Option M} {e : Option D} {A : List Nat} (i : Nat), SlotsR S o en As → en[i]? = some e → SlotR S x e A → SlotsR S (o.set i x) en (As.set i A)
  | [], en, As, x, e, A, i, h, q, k => by obtain ⟨rfl, rfl⟩ := h; exact ⟨rfl, rfl⟩
  | y :: o, en, As, x, e, A, 0, h, q, k => by
    obtain ⟨e', r, A', Ar, rfl, rfl, h1, h2⟩ := h
    simp at q; subst q
    exact ⟨e', r, A, Ar, rfl, rfl, k, h2⟩
  | y :: o, en, As, x, e, A, i + 1, h, q, k => by
    obtain ⟨e', r, A', Ar, rfl, rfl, h1, h2⟩ := h
    exact ⟨e', r, A', Ar.set i A, rfl, rfl, h1, SlotsR.upd i h2 (by simpa using q) k⟩
theorem count_set : ∀ (As : List (List Nat)) (i : Nat) (F B : List Nat) (a : Nat), As[i]? = some F → (As.set i B).flatten.count a + F.count a = As.flatten.count a + B.count a
  | [], i, F, B, a, h => by simp at h
  | A :: As, 0, F, B, a, h => by simp at h; subst h; simp [List.count_append]; omega
  | A :: As, i + 1, F, B, a, h => by
    have := count_set As i F B a (by simpa using h)
    simp only [List.set_cons_succ, List.flatten_cons, List.count_append]
    omega
theorem count_set_le (As : List (List Nat)) (i : Nat) (B : List Nat) (a : Nat) : (As.set i B).flatten.count a ≤ As.flatten.count a + B.count a := by
  cases h : As[i]? with
  | none => rw [List.set_eq_of_length_le (List.getElem?_eq_none_iff.mp h)]; omega
  | some F => have := count_set As i F B a h; omega
def Env.put (env : Env) (i : Nat) (x : Option M) : Env := ⟨env.o.set i x, env.b.filter fun t => t.1 != i && t.2.1 != i⟩
/-- what looks at a part of i is forgotten -/
def Env.kill (env : Env) (i : Nat) : Env := ⟨env.o, env.b.filter fun t => t.2.1 != i⟩
theorem EnvR.put {S : So} {env : Env} {en : En} {As : List (List Nat)} {x : Option M} {e : Option D} {A : List Nat} (i : Nat) (h : EnvR S env en As) (k : SlotR S x e A) : EnvR S (env.put i x) (en.set i e) (As.set i A) :=
  ⟨h.sl.set i k, fun t ht => by
    unfold Env.put at ht
    rw [List.mem_filter] at ht
    obtain ⟨h0, h1⟩ := ht
    simp only [Bool.and_eq_true, bne_iff_ne, ne_eq] at h1
    obtain ⟨d, A, F, g1, g2, g3, g4⟩ := h.bo t h0
    exact ⟨d, A, F, by rw [List.getElem?_set_ne (fun q => h1.1 q.symm)]; exact g1, g2, by rw [List.getElem?_set_ne (fun q => h1.2 q.symm)]; exact g3, g4⟩⟩
/-- what i owns has changed in place -/
theorem EnvR.upd {S : So} {env : Env} {en : En} {As : List (List Nat)} {x : Option M} {e : Option D} {A : List Nat} (i : Nat) (h : EnvR S env en As) (q : en[i]? = some e) (k : SlotR S x e A) : EnvR S (Env.kill ⟨env.o.set i x, env.b⟩ i) en (As.set i A) :=
  ⟨h.sl.upd i q k, fun t ht => by
    unfold Env.kill at ht
    rw [List.mem_filter] at ht
    obtain ⟨h0, h1⟩ := ht
    simp only [bne_iff_ne, ne_eq] at h1
    obtain ⟨d, A, F, g1, g2, g3, g4⟩ := h.bo t h0
    exact ⟨d, A, F, g1, g2, by rw [List.getElem?_set_ne (fun q => h1 q.symm)]; exact g3, g4⟩⟩
end VF

namespace VF
open PySem L2 PF
/-! ### results -/
inductive Rv (α : Type) where
  | ok (a : α) (e : Env) | ex (C : Addr) (e : Env) | no
def Rv.bind {α β : Type} : Rv α → (α → Env → Rv β) → Rv β
  | .ok a e, k => k a e
  | .ex C e, _ => .ex C e
  | .no, _ => .no
inductive Vl where
  | nx (e : Env) | rt (m : M) (e : Env) | bk (e : Env) | ct (e : Env) | ex (C : Addr) (e : Env) | no
abbrev VE := Env → Rv M
abbrev VT := Env → Rv Bool
abbrev VA := Env → Rv (List M)
abbrev VS := Env → Vl
/-- from S, where A is owned, to S', where A' is -/
structure Fr (S : So) (A : List Nat) (S' : So) (A' : List Nat) : Prop where
  len : S.length ≤ S'.length
  same : ∀ n, n < S.length → n ∉ A → S'[n]? = S[n]?
  new : ∀ n ∈ A', n ∈ A ∨ S.length ≤ n
theorem Fr.refl {S : So} {A : List Nat} : Fr S A S A := ⟨Nat.le_refl _, fun _ _ _ => rfl, fun _ h => .inl h⟩
theorem Fr.sub {S S' : So} {A A' B : List Nat} (h : Fr S A S' A') (k : ∀ n ∈ B, n ∈ A') : Fr S A S' B := ⟨h.len, h.same, fun n hn => h.new n (k n hn)⟩
theorem Fr.trans {S S1 S2 : So} {A A1 A2 : List Nat} (h : Fr S A S1 A1) (k : Fr S1 A1 S2 A2) : Fr S A S2 A2 :=
  ⟨Nat.le_trans h.len k.len, fun n hl hn => by
    rw [k.same n (Nat.lt_of_lt_of_le hl h.len) (fun q => (h.new n q).elim hn (by omega))]
    exact h.same n hl hn, fun n hn => (k.new n hn).elim (h.new n) (fun q => .inr (Nat.le_trans h.len q))⟩
theorem Fr.more {S J : So} {A : List Nat} : Fr S A (S ++ J) A := ⟨by simp, fun n hl _ => get_app hl, fun _ h => .inl h⟩
/-- q: nothing that stood is changed -/
def Mo (q : Bool) (S S' : So) : Prop := q = true → ∃ J, S' = S ++ J
theorem Mo.refl {q : Bool} {S : So} : Mo q S S := fun _ => ⟨[], by simp⟩
theorem Mo.trans {q1 q2 q : Bool} {S S1 S2 : So} (h : Mo q1 S S1) (k : Mo q2 S1 S2) (h1 : q = true → q1 = true) (h2 : q = true → q2 = true) : Mo q S S2 := fun z => by
  obtain ⟨J, rfl⟩ := h (h1 z)
  obtain ⟨J', rfl⟩ := k (h2 z)
  exact ⟨J ++ J', by simp⟩
theorem Mo.no {S S' : So} : Mo false S S' := fun z => by cases z
def SimAt {α β : Type} (R : So → α → β → List Nat → Prop) (p : Bool) (S : So) (env : Env) (en : En) (A : List Nat) (r : Rs β) (rv : Rv α) : Prop := match rv with
  | .ok a env' => ∃ b S' As' B, r = .ok b S' ∧ EnvR S' env' en As' ∧ R S' a b B ∧ Nd (As'.flatten ++ B) ∧ Fr S A S' (As'.flatten ++ B) ∧ (p = true → env' = env ∧ ∃ J, S' = S ++ J)
  | .ex C env' => ∃ S' As', r = .ex C S' ∧ EnvR S' env' en As' ∧ Nd As'.flatten ∧ Fr S A S' As'.flatten ∧ (p = true → env' = env ∧ ∃ J, S' = S ++ J)
  | .no => True
structure SimR {α β : Type} (R : So → α → β → List Nat → Prop) (p : Bool) (f : En → So → Rs β) (v : Env → Rv α) : Prop where
  run : ∀ (env : Env) (en : En) (S : So) (As : List (List Nat)), EnvR S env en As → Nd As.flatten → SimAt R p S env en As.flatten (f en S) (v env)
/-- the relation lives on while the rest goes on -/
def Stab {α β : Type} (R : So → α → β → List Nat → Prop) (p : Bool) : Prop := ∀ (S S' : So) (a : α) (b : β) (B : List Nat), R S a b B → (∀ n ∈ B, S'[n]? = S[n]?) → (p = true → ∃ J, S' = S ++ J) → R S' a b B
def InL {α β : Type} (R : So → α → β → List Nat → Prop) : Prop := ∀ (S : So) (a : α) (b : β) (B : List Nat), R S a b B → ∀ n ∈ B, n < S.length
theorem SimR.bind {α1 β1 α2 β2 : Type} {R1 : So → α1 → β1 → List Nat → Prop} {R2 : So → α2 → β2 → List Nat → Prop} {p1 p2 : Bool} {f : En → So → Rs β1} {v : Env → Rv α1} {k : β1 → En → So → Rs β2} {kv : α1 → Env → Rv α2}
    (h1 : SimR R1 p1 f v) (h2 : ∀ (a : α1) (b : β1) (env : Env) (en : En) (S : So) (As : List (List Nat)) (B : List Nat), EnvR S env en As → R1 S a b B → Nd (As.flatten ++ B) → SimAt R2 p2 S env en (As.flatten ++ B) (k b en S) (kv a env)) :
    SimR R2 (p1 && p2) (fun en S => (f en S).bind fun b S1 => k b en S1) (fun env => (v env).bind kv) := by
  refine ⟨fun env en S As he nd => ?_⟩
  have q := h1.run env en S As he nd
  show SimAt R2 (p1 && p2) S env en As.flatten ((f en S).bind fun b S1 => k b en S1) ((v env).bind kv)
  cases ev : v env with
  | no => exact trivial
  | ex C env' =>
    rw [ev] at q
    obtain ⟨S', As', e1, e2, e3, e4, e5⟩ := q
    rw [e1]
    exact ⟨S', As', rfl, e2, e3, e4, fun z => e5 (by simp at z; exact z.1)⟩
  | ok a env1 =>
    rw [ev] at q
    obtain ⟨b, S1, As1, B1, e1, e2, e3, e4, e5, e6⟩ := q
    rw [e1]
    have q2 := h2 a b env1 en S1 As1 B1 e2 e3 e4
    show SimAt R2 (p1 && p2) S env en As.flatten (k b en S1) (kv a env1)
    cases ev2 : kv a env1 with
    | no => exact trivial
    | ex C env' =>
      rw [ev2] at q2
      obtain ⟨S', As', g1, g2, g3, g4, g5⟩ := q2
      refine ⟨S', As', g1, g2, g3, e5.trans g4, fun z => ?_⟩
      simp only [Bool.and_eq_true] at z
      obtain ⟨rfl, J, rfl⟩ := e6 z.1
      obtain ⟨rfl, J', rfl⟩ := g5 z.2
      exact ⟨rfl, J ++ J', by simp⟩
    | ok a2 env2 =>
      rw [ev2] at q2
      obtain ⟨b2, S2, As2, B2, g1, g2, g3, g4, g5, g6⟩ := q2
      refine ⟨b2, S2, As2, B2, g1, g2, g3, g4, e5.trans g5, fun z => ?_⟩
      simp only [Bool.and_eq_true] at z
      obtain ⟨rfl, J, rfl⟩ := e6 z.1
      obtain ⟨rfl, J', rfl⟩ := g6 z.2
      exact ⟨rfl, J ++ J', by simp⟩
/-- two things, the first held meanwhile -/
def RPair {α1 β1 α2 β2 : Type} (R1 : So → α1 → β1 → List Nat → Prop) (R2 : So → α2 → β2 → List Nat → Prop) (a : α1) (b : β1) : So → α2 → β2 → List Nat → Prop := fun S a2 b2 B => ∃ B1 B2, B = B1 ++ B2 ∧ R1 S a b B1 ∧ R2 S a2 b2 B2
theorem SimR.hold {α1 β1 α2 β2 : Type} {R1 : So → α1 → β1 → List Nat → Prop} {R2 : So → α2 → β2 → List Nat → Prop} {p : Bool} {f : En → So → Rs β2} {v : Env → Rv α2} (h : SimR R2 p f v) (st : Stab R1 p) (il : InL R1)
    {a : α1} {b : β1} {env : Env} {en : En} {S : So} {As : List (List Nat)} {B : List Nat} (he : EnvR S env en As) (r : R1 S a b B) (nd : Nd (As.flatten ++ B)) :
    SimAt (RPair R1 R2 a b) p S env en (As.flatten ++ B) (f en S) (v env) := by
  have q := h.run env en S As he nd.left
  cases ev : v env with
  | no => exact trivial
  | ex C env' =>
    rw [ev] at q
    obtain ⟨S', As', e1, e2, e3, e4, e5⟩ := q
    exact ⟨S', As', e1, e2, e3, ⟨e4.len, fun n hl hn => e4.same n hl (fun z => hn (by simp [z])), fun n hn => (e4.new n hn).elim (fun z => .inl (by simp [z])) .inr⟩, e5⟩
  | ok a2 env2 =>
    rw [ev] at q
    obtain ⟨b2, S2, As2, B2, g1, g2, g3, g4, g5, g6⟩ := q
    have hB : ∀ n ∈ B, n < S.length ∧ n ∉ As.flatten := fun n hn => ⟨il S a b B r n hn, fun z => nd.not z hn⟩
    refine ⟨b2, S2, As2, B ++ B2, g1, g2, ⟨B, B2, rfl, st S S2 a b B r (fun n hn => g5.same n (hB n hn).1 (hB n hn).2) (fun z => (g6 z).2), g3⟩, ?_, ⟨g5.len, fun n hl hn => g5.same n hl (fun z => hn (by simp [z])), fun n hn => ?_⟩, g6⟩
    · have : Nd ((As2.flatten ++ B2) ++ B) := g4.app nd.right fun n hn => by
        intro z
        rcases g5.new n hn with q | q
        · exact (hB n z).2 q
        · have := (hB n z).1; omega
      exact this.le fun a => by simp only [List.count_append]; omega
    · simp only [List.mem_append] at hn
      rcases hn with hn | hn | hn
      · exact (g5.new n (by simp [hn])).elim (fun z => .inl (by simp [z])) .inr
      · exact .inl (by simp [hn])
      · exact (g5.new n (by simp [hn])).elim (fun z => .inl (by simp [z])) .inr
theorem SimAt.map {α β α2 β2 : Type} {R : So → α → β → List Nat → Prop} {R2 : So → α2 → β2 → List Nat → Prop} {p p2 : Bool} {S : So} {env : Env} {en : En} {A : List Nat} {r : Rs β} {rv : Rv α} (h : SimAt R p S env en A r rv) {k : β → So → Rs β2} {kv : α → Env → Rv α2}
    (h2 : ∀ (a : α) (b : β) (env1 : Env) (S1 : So) (As : List (List Nat)) (B : List Nat), EnvR S1 env1 en As → R S1 a b B → Nd (As.flatten ++ B) → SimAt R2 p2 S1 env1 en (As.flatten ++ B) (k b S1) (kv a env1)) :
    SimAt R2 (p && p2) S env en A (r.bind k) (rv.bind kv) := by
  cases rv with
  | no => exact trivial
  | ex C env' =>
    obtain ⟨S', As', e1, e2, e3, e4, e5⟩ := h
    rw [e1]
    exact ⟨S', As', rfl, e2, e3, e4, fun z => e5 (by simp at z; exact z.1)⟩
  | ok a env1 =>
    obtain ⟨b, S1, As1, B1, e1, e2, e3, e4, e5, e6⟩ := h
    rw [e1]
    have q2 := h2 a b env1 S1 As1 B1 e2 e3 e4
    show SimAt R2 (p && p2) S env en A (k b S1) (kv a env1)
    cases ev2 : kv a env1 with
    | no => exact trivial
    | ex C env' =>
      rw [ev2] at q2
      obtain ⟨S', As', g1, g2, g3, g4, g5⟩ := q2
      refine ⟨S', As', g1, g2, g3, e5.trans g4, fun z => ?_⟩
      simp only [Bool.and_eq_true] at z
      obtain ⟨rfl, J, rfl⟩ := e6 z.1
      obtain ⟨rfl, J', rfl⟩ := g5 z.2
      exact ⟨rfl, J ++ J', by simp⟩
    | ok a2 env2 =>
      rw [ev2] at q2
      obtain ⟨b2, S2, As2, B2, g1, g2, g3, g4, g5, g6⟩ := q2
      refine ⟨b2, S2, As2, B2, g1, g2, g3, g4, e5.trans g5, fun z => ?_⟩
      simp only [Bool.and_eq_true] at z
      obtain ⟨rfl, J, rfl⟩ := e6 z.1
      obtain ⟨rfl, J', rfl⟩ := g6 z.2
      exact ⟨rfl, J ++ J', by simp⟩
/-- a result that is at hand -/
theorem SimAt.ok {α β : Type} {R : So → α → β → List Nat → Prop} {p : Bool} {S : So} {env : Env} {en : En} {As : List (List Nat)} {A B : List Nat} {J : So} {a : α} {b : β} (he : EnvR S env en As) (nd : Nd A) (hA : ∀ n ∈ As.flatten, n ∈ A) (r : R (S ++ J) a b B)
    (hB : Nd (As.flatten ++ B)) (hn : ∀ n ∈ B, n ∈ A ∨ S.length ≤ n) : SimAt R p S env en A (.ok b (S ++ J)) (.ok a env) :=
  ⟨b, S ++ J, As, B, rfl, he.more, r, hB, ⟨by simp, fun n hl _ => get_app hl, fun n h => (List.mem_append.mp h).elim (fun z => .inl (hA n z)) (hn n)⟩, fun _ => ⟨rfl, J, rfl⟩⟩
/-! ### values read -/
/-- a thing as it is looked at -/
def VwD (S : So) (x d : D) : Prop := (d = x ∧ nr x = true) ∨ ∃ ds n, x = .lst ds ∧ d = .ref n ∧ S[n]? = some (.lst ds) ∧ nrs ds = true
def Vw (S : So) (m : M) (d : D) : Prop := match m with
  | .val x => VwD S x d
  | m => ∃ A, Rep S m d A
def RE (x : Bool) (S : So) (m : M) (d : D) (B : List Nat) : Prop := match x with
  | true => Rep S m d B
  | false => Vw S m d ∧ B = []
theorem Rep.vw {S : So} {m : M} {d : D} {A : List Nat} (h : Rep S m d A) : Vw S m d := by
  cases m with
  | val x => unfold Rep at h; exact .inl ⟨h.1, h.2.1⟩
  | _ => exact ⟨A, h⟩
theorem RE.vw {x : Bool} {S : So} {m : M} {d : D} {A : List Nat} (h : RE x S m d A) : Vw S m d := by
  cases x with
  | true => exact Rep.vw h
  | false => exact h.1
theorem VwD.more {S J : So} {x d : D} (h : VwD S x d) : VwD (S ++ J) x d := by
  rcases h with h | ⟨ds, n, h1, h2, h3, h4⟩
  · exact .inl h
  · exact .inr ⟨ds, n, h1, h2, by rw [get_app (List.getElem?_eq_some_iff.mp h3).1]; exact h3, h4⟩
theorem Vw.more {S J : So} {m : M} {d : D} (h : Vw S m d) : Vw (S ++ J) m d := by
  cases m with
  | val x => exact VwD.more h
  | _ => obtain ⟨A, h⟩ := h; exact ⟨A, h.more⟩
theorem stab_rep (p : Bool) : Stab (RE true) p := fun S S' m d B r f _ => Rep.frame r f
theorem stab_re {x p : Bool} (h : (x || p) = true) : Stab (RE x) p := by
  cases x with
  | true => exact stab_rep p
  | false =>
    simp at h; subst h
    intro S S' m d B r f k
    obtain ⟨J, rfl⟩ := k rfl
    exact ⟨Vw.more r.1, r.2⟩
theorem inl_re {x : Bool} : InL (RE x) := by
  cases x with
  | true => exact fun S m d B r => Rep.lt r
  | false => exact fun S m d B r n hn => by rw [r.2] at hn; cases hn
abbrev SimE (p x : Bool) (f : FE) (v : VE) : Prop := SimR (RE x) p f v
def RB : So → Bool → Bool → List Nat → Prop := fun _ a b B => b = a ∧ B = []
abbrev SimT (p : Bool) (f : FT) (v : VT) : Prop := SimR RB p f v
abbrev SimA (p : Bool) (f : FA) (v : VA) : Prop := SimR Reps p f v
theorem stab_rb {p : Bool} : Stab RB p := fun S S' m d B r f _ => r
theorem inl_rb : InL RB := fun S m d B r n hn => by rw [r.2] at hn; cases hn
theorem stab_reps {p : Bool} : Stab Reps p := fun S S' m d B r f _ => r.frame f
theorem inl_reps : InL Reps := fun S m d B r => r.lt
end VF

namespace VF
open PySem L2 PF
/-! ### operators by values -/
section vwd
variable {S : So} {x d : D}
theorem vwd_same (h : nr x = true) : VwD S x x := .inl ⟨rfl, h⟩
theorem ls_vw (h : VwD S x d) : lsOf S d = lsOf [] x := by
  rcases h with ⟨rfl, h⟩ | ⟨ds, n, rfl, rfl, h, _⟩
  · cases d <;> first | rfl | (simp [nr] at h)
  · simp only [lsOf, h]
theorem sq_vw (h : VwD S x d) : sqOf S d = sqOf [] x := by
  rcases h with ⟨rfl, h⟩ | ⟨ds, n, rfl, rfl, h, _⟩
  · cases d <;> first | rfl | (simp [nr] at h)
  · simp only [sqOf, lsOf, h]
theorem pd_vw (h : VwD S x d) : pdOf S d = pdOf [] x := by
  rcases h with ⟨rfl, h⟩ | ⟨ds, n, rfl, rfl, h, _⟩
  · cases d <;> first | rfl | (simp [nr] at h)
  · simp only [pdOf, h, pd0]
theorem ty_vw (h : VwD S x d) : tyN S d = tyN [] x := by
  rcases h with ⟨rfl, h⟩ | ⟨ds, n, rfl, rfl, h, _⟩
  · cases d <;> first | rfl | (simp [nr] at h)
  · simp only [tyN, h]
theorem tru_vw (h : VwD S x d) : truD S d = truD [] x := by
  rcases h with ⟨rfl, h⟩ | ⟨ds, n, rfl, rfl, h, _⟩
  · cases d <;> first | rfl | (simp [nr] at h)
  · simp only [truD, h]
theorem nr_vw (h : VwD S x d) : nr x = true := by
  rcases h with ⟨rfl, h⟩ | ⟨ds, n, rfl, rfl, _, h⟩
  · exact h
  · simpa [nr] using h
theorem ls_nrs {xs : List D} (h : VwD S x d) (k : lsOf [] x = some xs) : nrs xs = true := by
  have := nr_vw h
  cases x <;> simp [lsOf] at k
  subst k; simpa [nr] using this
theorem sq_nrs {xs : List D} (h : VwD S x d) (k : sqOf [] x = some xs) : nrs xs = true := by
  have := nr_vw h
  cases x <;> simp [sqOf, lsOf] at k <;> (subst k; simpa [nr] using this)
/-- not a list: the thing itself -/
theorem vwd_eq (h : VwD S x d) (k : ∀ ds, x ≠ .lst ds) : d = x := by
  rcases h with ⟨rfl, h⟩ | ⟨ds, n, rfl, rfl, h, _⟩
  · rfl
  · exact absurd rfl (k ds)
end vwd
/-- an operation on what is looked at: r is new or plain -/
structure OpV (g : G2) : Prop where
  run : ∀ (S : So) (x y d e r : D) (T : So), VwD S x d → VwD S y e → g x y [] = some (r, T) → g d e S = some (r, S) ∧ nr r = true
theorem opv_I (f : Int → Int → Int) : OpV (gI f) := ⟨fun S x y d e r T h k q => by
  cases x <;> cases y <;> first | (simp [gI] at q; done) | skip
  rw [vwd_eq h (by simp), vwd_eq k (by simp)]
  simp only [gI, Option.some.injEq, Prod.mk.injEq] at q ⊢
  obtain ⟨rfl, _⟩ := q
  exact ⟨⟨rfl, trivial⟩, rfl⟩⟩
theorem opv_Ic (c : Int → Int → Bool) (f : Int → Int → Int) : OpV (gIc c f) := ⟨fun S x y d e r T h k q => by
  cases x <;> cases y <;> first | (simp [gIc] at q; done) | skip
  rw [vwd_eq h (by simp), vwd_eq k (by simp)]
  simp only [gIc] at q ⊢
  split at q
  · rename_i hc
    rw [if_pos hc]
    simp only [Option.some.injEq, Prod.mk.injEq] at q ⊢
    obtain ⟨rfl, _⟩ := q
    exact ⟨⟨rfl, trivial⟩, rfl⟩
  · cases q⟩
theorem opv_B (f : Int → Int → Bool) : OpV (gB f) := ⟨fun S x y d e r T h k q => by
  cases x <;> cases y <;> first | (simp [gB] at q; done) | skip
  rw [vwd_eq h (by simp), vwd_eq k (by simp)]
  simp only [gB, Option.some.injEq, Prod.mk.injEq] at q ⊢
  obtain ⟨rfl, _⟩ := q
  exact ⟨⟨rfl, trivial⟩, rfl⟩⟩
theorem opv_sub : OpV gMinus := opv_I _
theorem opv_fdiv : OpV gFdiv := opv_Ic _ _
theorem opv_mod : OpV gMod := opv_Ic _ _
theorem opv_pow : OpV gPow := opv_Ic _ _
theorem opv_le : OpV gLe := opv_B _
theorem opv_ge : OpV gGe := opv_B _
theorem opv_gt : OpV gGt := opv_B _
theorem opv_add : OpV (gAdd false) := ⟨fun S x y d e r T h k q => by
  have nx := nr_vw h
  have ny := nr_vw k
  have lx := ls_vw h
  have ly := ls_vw k
  unfold gAdd at q
  split at q
  · rw [vwd_eq h (by simp), vwd_eq k (by simp)]
    simp only [gAdd, Option.some.injEq, Prod.mk.injEq] at q ⊢
    obtain ⟨rfl, _⟩ := q
    exact ⟨⟨rfl, trivial⟩, rfl⟩
  · rw [vwd_eq h (by simp), vwd_eq k (by simp)]
    simp only [gAdd]
    split at q
    · rename_i hc
      rw [if_pos hc]
      simp only [Option.some.injEq, Prod.mk.injEq] at q ⊢
      obtain ⟨rfl, _⟩ := q
      exact ⟨⟨rfl, trivial⟩, rfl⟩
    · cases q
  · rw [vwd_eq h (by simp), vwd_eq k (by simp)]
    simp only [gAdd]
    split at q
    · rename_i hc
      rw [if_pos hc]
      simp only [Option.some.injEq, Prod.mk.injEq] at q ⊢
      obtain ⟨rfl, _⟩ := q
      exact ⟨⟨rfl, trivial⟩, by simp only [nr] at nx ny ⊢; exact nrs_app nx ny⟩
    · cases q
  · rename_i n1 n2 n3
    split at q
    · rename_i xs ys hx hy
      split at q
      · rename_i hc
        simp only [newL_f, Option.some.injEq, Prod.mk.injEq] at q
        obtain ⟨rfl, _⟩ := q
        refine ⟨?_, by simp only [nr]; exact nrs_app (ls_nrs h hx) (ls_nrs k hy)⟩
        rw [hx] at lx; rw [hy] at ly
        have hd : d = x ∨ ∃ n, d = .ref n := by
          rcases h with ⟨rfl, _⟩ | ⟨ds, n, rfl, rfl, _, _⟩
          · exact .inl rfl
          · exact .inr ⟨n, rfl⟩
        have he : e = y ∨ ∃ n, e = .ref n := by
          rcases k with ⟨rfl, _⟩ | ⟨ds, n, rfl, rfl, _, _⟩
          · exact .inl rfl
          · exact .inr ⟨n, rfl⟩
        unfold gAdd
        split
        · simp [lsOf] at lx
        · simp [lsOf] at lx
        · simp [lsOf] at lx
        · rw [lx, ly]
          simp only [if_pos hc, newL_f]
      · cases q
    · cases q⟩
theorem opv_mul : OpV (gMul false) := ⟨fun S x y d e r T h k q => by
  have lx := ls_vw h
  unfold gMul at q
  split at q
  · rw [vwd_eq h (by simp), vwd_eq k (by simp)]
    simp only [gMul]
    split at q
    · rename_i hc
      rw [if_pos hc]
      simp only [Option.some.injEq, Prod.mk.injEq] at q ⊢
      obtain ⟨rfl, _⟩ := q
      exact ⟨⟨rfl, trivial⟩, rfl⟩
    · cases q
  · rw [vwd_eq k (by simp)]
    split at q
    · rename_i xs hx
      rw [hx] at lx
      split at q
      · rename_i hc
        simp only [newL_f, Option.some.injEq, Prod.mk.injEq] at q
        obtain ⟨rfl, _⟩ := q
        refine ⟨?_, ?_⟩
        · unfold gMul
          split
          · simp [lsOf] at lx
          · rename_i heq; cases heq
            rw [lx]
            simp only [if_pos hc, newL_f]
          · rename_i h1 h2; exact (h1 _ rfl).elim
        · simp only [nr]
          refine nrs_sub (ls_nrs h hx) fun z hz => ?_
          obtain ⟨l, h1, h2⟩ := List.mem_flatten.mp hz
          rw [List.eq_of_mem_replicate h1] at h2
          exact h2
      · cases q
    · cases q
  · cases q⟩
theorem opv_lt : OpV gLt := ⟨fun S x y d e r T h k q => by
  unfold gLt at q
  split at q
  · rw [vwd_eq h (by simp), vwd_eq k (by simp)]
    simp only [gLt, Option.some.injEq, Prod.mk.injEq] at q ⊢
    obtain ⟨rfl, _⟩ := q
    exact ⟨⟨rfl, trivial⟩, rfl⟩
  · rw [vwd_eq h (by simp), vwd_eq k (by simp)]
    simp only [gLt, Option.some.injEq, Prod.mk.injEq] at q ⊢
    obtain ⟨rfl, _⟩ := q
    exact ⟨⟨rfl, trivial⟩, rfl⟩
  · rw [vwd_eq h (by simp), vwd_eq k (by simp)]
    simp only [gLt]
    split at q
    · rename_i h1 h2
      try rw [h1, h2]
      simp only [Option.some.injEq, Prod.mk.injEq] at q ⊢
      obtain ⟨rfl, _⟩ := q
      exact ⟨⟨rfl, trivial⟩, rfl⟩
    · cases q
  · cases q⟩
theorem opv_gtA : OpV gGtA := ⟨fun S x y d e r T h k q => by
  unfold gGtA at q
  split at q
  · rw [vwd_eq h (by simp), vwd_eq k (by simp)]
    simp only [gGtA, Option.some.injEq, Prod.mk.injEq] at q ⊢
    obtain ⟨rfl, _⟩ := q
    exact ⟨⟨rfl, trivial⟩, rfl⟩
  · rw [vwd_eq h (by simp), vwd_eq k (by simp)]
    simp only [gGtA]
    split at q
    · rename_i h1 h2
      try rw [h1, h2]
      simp only [Option.some.injEq, Prod.mk.injEq] at q ⊢
      obtain ⟨rfl, _⟩ := q
      exact ⟨⟨rfl, trivial⟩, rfl⟩
    · cases q
  · cases q⟩
theorem isNon_vw {S : So} {x d : D} (h : VwD S x d) : isNon d = isNon x := by
  rcases h with ⟨rfl, h⟩ | ⟨ds, n, rfl, rfl, h, _⟩ <;> rfl
theorem opv_is : OpV gIs := ⟨fun S x y d e r T h k q => by
  unfold gIs at q
  split at q
  · rw [vwd_eq k (by simp)]
    simp only [gIs, Option.some.injEq, Prod.mk.injEq, isNon_vw h] at q ⊢
    obtain ⟨rfl, _⟩ := q
    exact ⟨⟨rfl, trivial⟩, rfl⟩
  · cases q⟩
theorem opv_isnot : OpV gIsNot := ⟨fun S x y d e r T h k q => by
  unfold gIsNot at q
  split at q
  · rw [vwd_eq k (by simp)]
    simp only [gIsNot, Option.some.injEq, Prod.mk.injEq, isNon_vw h] at q ⊢
    obtain ⟨rfl, _⟩ := q
    exact ⟨⟨rfl, trivial⟩, rfl⟩
  · cases q⟩
theorem opv_eq : OpV gEq := ⟨fun S x y d e r T h k q => by
  unfold gEq eqD at q ⊢
  rw [pd_vw h, pd_vw k]
  split at q
  · rename_i hk
    try rw [hk]
    simp only [Option.some.injEq, Prod.mk.injEq] at q ⊢
    obtain ⟨rfl, _⟩ := q
    exact ⟨⟨rfl, trivial⟩, rfl⟩
  · cases q⟩
theorem opv_ne : OpV gNe := ⟨fun S x y d e r T h k q => by
  unfold gNe eqD at q ⊢
  rw [pd_vw h, pd_vw k]
  split at q
  · rename_i hk
    try rw [hk]
    simp only [Option.some.injEq, Prod.mk.injEq] at q ⊢
    obtain ⟨rfl, _⟩ := q
    exact ⟨⟨rfl, trivial⟩, rfl⟩
  · cases q⟩
theorem fl_vw {S : So} {x d : D} {u : V} (h : VwD S x d) (k : flD x = some u) : flD d = some u := by
  rcases h with ⟨rfl, h⟩ | ⟨ds, n, rfl, rfl, h, _⟩
  · exact k
  · simp [flD] at k
theorem in_vw {S : So} {x d y e : D} {b : Bool} (h : VwD S x d) (k : VwD S y e) (q : inD [] x y = some b) : inD S d e = some b := by
  unfold inD at q ⊢
  rw [sq_vw k]
  split at q
  · rename_i h1 h2
    rw [fl_vw h h1, h2]
    exact q
  · cases q
theorem opv_in : OpV gIn := ⟨fun S x y d e r T h k q => by
  unfold gIn at q ⊢
  split at q
  · rename_i hk
    rw [in_vw h k hk]
    simp only [Option.some.injEq, Prod.mk.injEq] at q ⊢
    obtain ⟨rfl, _⟩ := q
    exact ⟨⟨rfl, trivial⟩, rfl⟩
  · cases q⟩
theorem opv_notin : OpV gNotIn := ⟨fun S x y d e r T h k q => by
  unfold gNotIn at q ⊢
  split at q
  · rename_i hk
    rw [in_vw h k hk]
    simp only [Option.some.injEq, Prod.mk.injEq] at q ⊢
    obtain ⟨rfl, _⟩ := q
    exact ⟨⟨rfl, trivial⟩, rfl⟩
  · cases q⟩
theorem nrs_atI {xs : List D} {i : Int} {d : D} (h : nrs xs = true) (k : atI xs i = some d) : nr d = true := by
  unfold L2.atI at k
  cases e : ixN xs.length i with
  | none => rw [e] at k; cases k
  | some j => rw [e] at k; exact nrs_get h k
theorem opv_ix : OpV gIx := ⟨fun S x y d e r T h k q => by
  have lx := sq_vw h
  unfold gIx at q
  split at q
  · rw [vwd_eq h (by simp), vwd_eq k (by simp)]
    simp only [gIx]
    split at q
    · rename_i hc
      rw [if_pos hc]
      split at q
      · rename_i h1
        try rw [h1]
        simp only [Option.some.injEq, Prod.mk.injEq] at q ⊢
        obtain ⟨rfl, _⟩ := q
        exact ⟨⟨rfl, trivial⟩, rfl⟩
      · cases q
    · cases q
  · rename_i hns
    rw [vwd_eq k (by simp)]
    split at q
    · rename_i xs hx
      rw [hx] at lx
      split at q
      · rename_i z hz
        simp only [Option.some.injEq, Prod.mk.injEq] at q
        obtain ⟨rfl, _⟩ := q
        refine ⟨?_, nrs_atI (sq_nrs h hx) hz⟩
        unfold gIx
        split
        · simp [sqOf, lsOf] at lx
        · rename_i heq; cases heq
          rw [lx]; simp only [hz]
        · rename_i h1 h2; exact (h1 _ rfl).elim
      · cases q
    · cases q
  · cases q⟩
/-! ### built-ins -/
def VwDs (S : So) : List D → List D → Prop
  | [], ds => ds = []
  | x :: xs, ds => ∃ d r, ds = d :: r ∧ VwD S x d ∧ VwDs S xs r
structure CallV (g : GA) : Prop where
  run : ∀ (S : So) (xs ds : List D) (r : D) (T : So), VwDs S xs ds → g xs [] = some (r, T) → g ds S = some (r, S) ∧ nr r = true
theorem vwds1 {S : So} {x : D} {ds : List D} (h : VwDs S [x] ds) : ∃ d, ds = [d] ∧ VwD S x d := by
  obtain ⟨d, r, rfl, h1, rfl⟩ := h; exact ⟨d, rfl, h1⟩
theorem vwds2 {S : So} {x y : D} {ds : List D} (h : VwDs S [x, y] ds) : ∃ d e, ds = [d, e] ∧ VwD S x d ∧ VwD S y e := by
  obtain ⟨d, r, rfl, h1, e, r2, rfl, h2, rfl⟩ := h; exact ⟨d, e, rfl, h1, h2⟩
theorem cv_len : CallV gLen := ⟨fun S xs ds r T h q => by
  unfold gLen at q
  split at q
  · obtain ⟨d, rfl, h1⟩ := vwds1 h
    rw [vwd_eq h1 (by simp)]
    simp only [gLen]
    split at q
    · rename_i hc
      rw [if_pos hc]
      simp only [Option.some.injEq, Prod.mk.injEq] at q ⊢
      obtain ⟨rfl, _⟩ := q
      exact ⟨⟨rfl, trivial⟩, rfl⟩
    · cases q
  · simp at q
  · obtain ⟨d, rfl, h1⟩ := vwds1 h
    rw [vwd_eq h1 (by simp)]
    simp only [gLen, Option.some.injEq, Prod.mk.injEq] at q ⊢
    obtain ⟨rfl, _⟩ := q
    exact ⟨⟨rfl, trivial⟩, rfl⟩
  · obtain ⟨d, rfl, h1⟩ := vwds1 h
    simp only [Option.some.injEq, Prod.mk.injEq] at q
    obtain ⟨rfl, _⟩ := q
    rcases h1 with ⟨rfl, _⟩ | ⟨ds, n, e1, rfl, h2, _⟩
    · exact ⟨rfl, rfl⟩
    · cases e1; simp only [gLen, h2]; exact ⟨trivial, rfl⟩
  · cases q⟩
theorem cv_abs : CallV gAbs := ⟨fun S xs ds r T h q => by
  unfold gAbs at q
  split at q
  · obtain ⟨d, rfl, h1⟩ := vwds1 h
    rw [vwd_eq h1 (by simp)]
    simp only [gAbs, Option.some.injEq, Prod.mk.injEq] at q ⊢
    obtain ⟨rfl, _⟩ := q
    exact ⟨⟨rfl, trivial⟩, rfl⟩
  · cases q⟩
theorem cv_int : CallV gInt := ⟨fun S xs ds r T h q => by
  unfold gInt at q
  split at q
  · obtain ⟨d, rfl, h1⟩ := vwds1 h
    rw [vwd_eq h1 (by simp)]
    simp only [gInt, Option.some.injEq, Prod.mk.injEq] at q ⊢
    obtain ⟨rfl, _⟩ := q
    exact ⟨⟨rfl, trivial⟩, rfl⟩
  · obtain ⟨d, rfl, h1⟩ := vwds1 h
    rw [vwd_eq h1 (by simp)]
    simp only [gInt, Option.some.injEq, Prod.mk.injEq] at q ⊢
    obtain ⟨rfl, _⟩ := q
    exact ⟨⟨rfl, trivial⟩, rfl⟩
  · cases q⟩
theorem cv_str : CallV gStr := ⟨fun S xs ds r T h q => by
  unfold gStr at q
  split at q
  · obtain ⟨d, rfl, h1⟩ := vwds1 h
    rw [vwd_eq h1 (by simp)]
    simp only [gStr]
    split at q
    · rename_i hc
      rw [if_pos hc]
      simp only [Option.some.injEq, Prod.mk.injEq] at q ⊢
      obtain ⟨rfl, _⟩ := q
      exact ⟨⟨rfl, trivial⟩, rfl⟩
    · cases q
  · cases q⟩
/-- a built-in that reads one list of ints -/
theorem cv_ints1 {g : GA} (f : List Int → Option D) (hf : ∀ ns r, f ns = some r → nr r = true) (h1 : ∀ S d, lsOf S d ≠ none → g [d] S = match lsOf S d with
    | some xs => match intsOf xs with
      | some ns => (f ns).map fun r => (r, S)
      | none => none
    | none => none) {S : So} {x d r : D} {T : So} (h : VwD S x d) (hx : lsOf [] x ≠ none) (q : g [x] [] = some (r, T)) : g [d] S = some (r, S) ∧ nr r = true := by
  have lx := ls_vw h
  rw [h1 [] x hx] at q
  rw [h1 S d (by rw [lx]; exact hx), lx]
  split at q
  · rename_i xs e1
    try rw [e1]
    try simp only
    split at q
    · rename_i ns e2
      try rw [e2]
      try simp only
      cases e3 : f ns with
      | none => rw [e3] at q; cases q
      | some r' =>
        rw [e3] at q
        simp only [Option.map_some, Option.some.injEq, Prod.mk.injEq] at q ⊢
        obtain ⟨rfl, _⟩ := q
        exact ⟨⟨rfl, trivial⟩, hf ns _ e3⟩
    · cases q
  · cases q
end VF

namespace VF
open PySem L2 PF
/-! ### more built-ins -/
theorem cv_min : CallV gMin := ⟨fun S xs ds r T h q => by
  unfold gMin at q
  split at q
  · obtain ⟨d, e, rfl, h1, h2⟩ := vwds2 h
    rw [vwd_eq h1 (by simp), vwd_eq h2 (by simp)]
    simp only [gMin, Option.some.injEq, Prod.mk.injEq] at q ⊢
    obtain ⟨rfl, _⟩ := q
    exact ⟨⟨rfl, trivial⟩, rfl⟩
  · obtain ⟨d, rfl, h1⟩ := vwds1 h
    unfold gMin
    simp only [ls_vw h1]
    split at q
    · split at q
      · split at q
        · cases q
        · rename_i hc
          simp only [if_neg hc, Option.some.injEq, Prod.mk.injEq] at q ⊢
          obtain ⟨rfl, _⟩ := q
          exact ⟨⟨rfl, trivial⟩, rfl⟩
      · cases q
    · cases q
  · cases q⟩
theorem cv_max : CallV gMax := ⟨fun S xs ds r T h q => by
  unfold gMax at q
  split at q
  · obtain ⟨d, e, rfl, h1, h2⟩ := vwds2 h
    rw [vwd_eq h1 (by simp), vwd_eq h2 (by simp)]
    simp only [gMax, Option.some.injEq, Prod.mk.injEq] at q ⊢
    obtain ⟨rfl, _⟩ := q
    exact ⟨⟨rfl, trivial⟩, rfl⟩
  · obtain ⟨d, rfl, h1⟩ := vwds1 h
    unfold gMax
    simp only [ls_vw h1]
    split at q
    · split at q
      · split at q
        · cases q
        · rename_i hc
          simp only [if_neg hc, Option.some.injEq, Prod.mk.injEq] at q ⊢
          obtain ⟨rfl, _⟩ := q
          exact ⟨⟨rfl, trivial⟩, rfl⟩
      · cases q
    · cases q
  · cases q⟩
theorem cv_sum : CallV gSum := ⟨fun S xs ds r T h q => by
  unfold gSum at q
  split at q
  · obtain ⟨d, rfl, h1⟩ := vwds1 h
    unfold gSum
    simp only [ls_vw h1]
    split at q
    · split at q
      · simp only [Option.some.injEq, Prod.mk.injEq] at q ⊢
        obtain ⟨rfl, _⟩ := q
        exact ⟨⟨rfl, trivial⟩, rfl⟩
      · cases q
    · cases q
  · cases q⟩
theorem cv_sorted : CallV (gSorted false) := ⟨fun S xs ds r T h q => by
  unfold gSorted at q
  split at q
  · obtain ⟨d, rfl, h1⟩ := vwds1 h
    unfold gSorted
    simp only [ls_vw h1]
    split at q
    · split at q
      · simp only [newL_f, Option.some.injEq, Prod.mk.injEq] at q ⊢
        obtain ⟨rfl, _⟩ := q
        exact ⟨⟨rfl, trivial⟩, by simp only [nr]; exact nrs_ints _⟩
      · cases q
    · cases q
  · cases q⟩
theorem cv_list : CallV (gList false) := ⟨fun S xs ds r T h q => by
  unfold gList at q
  split at q
  · obtain ⟨d, rfl, h1⟩ := vwds1 h
    unfold gList
    simp only [sq_vw h1]
    split at q
    · rename_i hx
      simp only [newL_f, Option.some.injEq, Prod.mk.injEq] at q ⊢
      obtain ⟨rfl, _⟩ := q
      exact ⟨⟨rfl, trivial⟩, by simp only [nr]; exact sq_nrs h1 hx⟩
    · cases q
  · cases q⟩
theorem cv_tuple : CallV gTuple := ⟨fun S xs ds r T h q => by
  unfold gTuple at q
  split at q
  · obtain ⟨d, rfl, h1⟩ := vwds1 h
    unfold gTuple
    simp only [sq_vw h1]
    split at q
    · rename_i hx
      simp only [Option.some.injEq, Prod.mk.injEq] at q ⊢
      obtain ⟨rfl, _⟩ := q
      exact ⟨⟨rfl, trivial⟩, by simp only [nr]; exact sq_nrs h1 hx⟩
    · cases q
  · cases q⟩
/-! ### expressions -/
def ofM (o : Option M) (e : Env) : Rv M := match o with
  | some m => .ok m e
  | none => .no
/-- all plain -/
def valsM : List M → Option (List D)
  | [] => some []
  | .val d :: r => match valsM r with
    | some ds => some (d :: ds)
    | none => none
  | _ :: _ => none
/-- as it is looked at -/
def lookM : M → Option M
  | .val d => some (.val d)
  | .lst ms => match valsM ms with
    | some ds => some (.val (.lst ds))
    | none => none
  | _ => none
theorem valsM_eq : ∀ {ms : List M} {ds : List D}, valsM ms = some ds → ms = ds.map M.val
  | [], ds, h => by simp only [valsM] at h; cases h; rfl
  | .val d :: r, ds, h => by
    simp only [valsM] at h
    split at h
    · rename_i e1
      cases h
      rw [valsM_eq e1]; rfl
    · cases h
  | .lst _ :: r, ds, h => by simp [valsM] at h
  | .dic _ _ :: r, ds, h => by simp [valsM] at h
  | .ins _ _ _ :: r, ds, h => by simp [valsM] at h
theorem valsM_map : ∀ (ds : List D), valsM (ds.map M.val) = some ds
  | [] => rfl
  | d :: ds => by simp only [List.map_cons, valsM, valsM_map ds]
theorem look_vw {S : So} {m x : M} {d : D} {A : List Nat} (h : Rep S m d A) (k : lookM m = some x) : Vw S x d := by
  cases m with
  | val y => simp only [lookM] at k; cases k; exact h.vw
  | lst ms =>
    simp only [lookM] at k
    split at k
    · rename_i ds e
      cases k
      rw [valsM_eq e] at h
      unfold Rep at h
      obtain ⟨n, es, B, h1, h2, h3, rfl⟩ := h
      obtain ⟨e1, h4, e2⟩ := Reps.vals_of h3
      subst e1
      exact .inr ⟨_, n, rfl, h1, h2, h4⟩
    · cases k
  | dic _ _ => simp [lookM] at k
  | ins _ _ _ => simp [lookM] at k
def getO (o : Option (Option M)) (k : M → Rv M) : Rv M := match o with
  | some (some m) => k m
  | _ => .no
/-- a name that holds plain data -/
def isV (m : M) (env : Env) : Rv M := match m with
  | .val d => .ok (.val d) env
  | _ => .no
def vVar (i : Nat) : VE := fun env => getO env.o[i]? fun m => isV m env
/-- a name, looked at -/
def vLk (i : Nat) : VE := fun env => getO env.o[i]? fun m => ofM (lookM m) env
/-- a name that hands over what it owns -/
def vMv (i : Nat) : VE := fun env => getO env.o[i]? fun m => .ok m (Env.kill ⟨env.o.set i none, env.b⟩ i)
/-- a name that looks at a part of another -/
def vLb (i : Nat) : VE := fun env => match env.b.find? (fun t => t.1 == i) with
  | some t => ofM (lookM t.2.2) env
  | none => .no
def vC (d : D) : VE := fun env => .ok (.val d) env
section vars
theorem at_var {S : So} {env : Env} {en : En} {As : List (List Nat)} {i : Nat} {m : M} (he : EnvR S env en As) (h : env.o[i]? = some (some m)) : ∃ d A, en[i]? = some (some d) ∧ As[i]? = some A ∧ Rep S m d A := by
  obtain ⟨e, A, h1, h2, h3⟩ := he.sl.get h
  obtain ⟨d, rfl, h4⟩ := h3
  exact ⟨d, A, h1, h2, h4⟩
theorem getO_ok {o : Option (Option M)} {k : M → Rv M} {m : M} {e : Env} (h : getO o k = .ok m e) : ∃ x, o = some (some x) ∧ k x = .ok m e := by
  unfold getO at h
  split at h
  · exact ⟨_, rfl, h⟩
  · cases h
theorem se_var (i : Nat) : SimE true true (fVar i) (vVar i) := ⟨fun env en S As he nd => by
  unfold vVar getO
  split
  · rename_i m h
    obtain ⟨d, A, h1, h2, h3⟩ := at_var he h
    show SimAt _ _ _ _ _ _ _ (isV m env)
    unfold isV
    split
    · rename_i x
      have h3' := h3
      unfold Rep at h3
      obtain ⟨rfl, h4, rfl⟩ := h3
      have : fVar i en S = .ok d (S ++ []) := by simp [fVar, h1]
      rw [this]
      exact SimAt.ok (B := []) he nd (fun _ h => h) (show Rep (S ++ []) _ _ _ from Rep.val h4) (by simpa using nd) (by simp)
    · exact trivial
  · exact trivial⟩
theorem se_lk (i : Nat) : SimE true false (fVar i) (vLk i) := ⟨fun env en S As he nd => by
  unfold vLk getO
  split
  · rename_i m h
    obtain ⟨d, A, h1, h2, h3⟩ := at_var he h
    show SimAt _ _ _ _ _ _ _ (ofM (lookM m) env)
    unfold ofM
    split
    · rename_i x hx
      have : fVar i en S = .ok d (S ++ []) := by simp [fVar, h1]
      rw [this]
      exact SimAt.ok (B := []) he nd (fun _ h => h) ⟨by simpa using look_vw h3 hx, rfl⟩ (by simpa using nd) (by simp)
    · exact trivial
  · exact trivial⟩
theorem se_lb (i : Nat) : SimE true false (fVar i) (vLb i) := ⟨fun env en S As he nd => by
  unfold vLb
  split
  · rename_i t h
    have hm := List.mem_of_find?_eq_some h
    have hi : t.1 = i := by simpa using List.find?_some h
    obtain ⟨d, A, F, h1, h2, h3, h4⟩ := he.bo t hm
    rw [hi] at h1
    unfold ofM
    split
    · rename_i x hx
      have : fVar i en S = .ok d (S ++ []) := by simp [fVar, h1]
      rw [this]
      exact SimAt.ok (B := []) he nd (fun _ h => h) ⟨by simpa using look_vw h2 hx, rfl⟩ (by simpa using nd) (by simp)
    · exact trivial
  · exact trivial⟩
theorem mem_set_flat {As : List (List Nat)} {i : Nat} {B : List Nat} {n : Nat} (h : n ∈ (As.set i B).flatten) : n ∈ As.flatten ∨ n ∈ B := by
  obtain ⟨l, h1, h2⟩ := List.mem_flatten.mp h
  rcases List.mem_or_eq_of_mem_set h1 with h1 | rfl
  · exact .inl (List.mem_flatten.mpr ⟨l, h1, h2⟩)
  · exact .inr h2
theorem se_mv (i : Nat) : SimE false true (fVar i) (vMv i) := ⟨fun env en S As he nd => by
  unfold vMv getO
  split
  · rename_i m h
    obtain ⟨d, A, h1, h2, h3⟩ := at_var he h
    have hf : fVar i en S = .ok d S := by simp [fVar, h1]
    refine ⟨d, S, As.set i [], A, hf, he.upd i h1 (show SlotR S none (some d) [] from rfl), h3, ?_, ⟨Nat.le_refl _, fun _ _ _ => rfl, fun n hn => ?_⟩, fun z => by cases z⟩
    · exact nd.le fun a => by
        have := count_set As i A [] a h2
        simp only [List.count_append, List.count_nil] at this ⊢
        omega
    · rcases List.mem_append.mp hn with hn | hn
      · exact (mem_set_flat hn).elim .inl (by intro z; cases z)
      · exact .inl (List.mem_flatten.mpr ⟨A, List.mem_of_getElem? h2, hn⟩)
  · exact trivial⟩
theorem se_c {d : D} (h : nr d = true := by rfl) : SimE true true (fC d) (vC d) := ⟨fun env en S As he nd => by
  have : fC d en S = .ok d (S ++ []) := by simp [fC]
  rw [this]
  exact SimAt.ok (B := []) he nd (fun _ h => h) (show Rep (S ++ []) _ _ _ from Rep.val h) (by simpa using nd) (by simp)⟩
end vars
/-- what is held exactly may be looked at -/
theorem SimR.weak {p : Bool} {f : FE} {v : VE} (h : SimE p true f v) : SimE p false f v := ⟨fun env en S As he nd => by
  have q := h.run env en S As he nd
  cases e : v env with
  | no => exact trivial
  | ex C e1 => rw [e] at q; exact q
  | ok m e1 =>
    rw [e] at q
    obtain ⟨b, S1, As1, B, h1, h2, h3, h4, h5, h6⟩ := q
    exact ⟨b, S1, As1, [], h1, h2, ⟨Rep.vw h3, rfl⟩, by simpa using h4.left, h5.sub (fun n hn => by simp at hn ⊢; exact .inl hn), h6⟩⟩
/-- less is known of what goes on -/
theorem SimR.imp {α β : Type} {R : So → α → β → List Nat → Prop} {p : Bool} {f : En → So → Rs β} {v : Env → Rv α} (h : SimR R p f v) : SimR R false f v := ⟨fun env en S As he nd => by
  have q := h.run env en S As he nd
  cases e : v env with
  | no => exact trivial
  | ex C e1 =>
    rw [e] at q
    obtain ⟨S1, As1, h1, h2, h3, h4, h5⟩ := q
    exact ⟨S1, As1, h1, h2, h3, h4, fun z => by cases z⟩
  | ok m e1 =>
    rw [e] at q
    obtain ⟨b, S1, As1, B, h1, h2, h3, h4, h5, h6⟩ := q
    exact ⟨b, S1, As1, B, h1, h2, h3, h4, h5, fun z => by cases z⟩⟩
theorem ok_drop {R : So → M → D → List Nat → Prop} {p : Bool} {S : So} {env : Env} {en : En} {As : List (List Nat)} {B : List Nat} {a : M} {b : D} (he : EnvR S env en As) (nd : Nd (As.flatten ++ B)) (r : R S a b []) : SimAt R p S env en (As.flatten ++ B) (.ok b S) (.ok a env) := by
  have := SimAt.ok (R := R) (p := p) (J := []) (en := en) (B := []) he nd (fun n hn => by simp [hn]) (by simpa using r) (by simpa using nd.left) (by simp)
  rw [List.append_nil] at this
  exact this
/-- what is looked at and is no list is the thing itself -/
def vEx (v : VE) : VE := fun env => (v env).bind fun m e => match m with
  | .val (.lst _) => .no
  | .val d => .ok (.val d) e
  | _ => .no
theorem re_val {x : Bool} {S : So} {y : D} {d : D} {B : List Nat} (h : RE x S (.val y) d B) : VwD S y d := h.vw
theorem re_ex {x : Bool} {p : Bool} {f : FE} {v : VE} (h : SimE p x f v) : SimE p true f (vEx v) := by
  have : SimE (p && true) true (fun en S => (f en S).bind fun d S1 => .ok d S1) (vEx v) := SimR.bind h fun a b env en S As B he r nd => by
    split
    · exact trivial
    · rename_i d hne
      have hv := re_val r
      have : b = d := vwd_eq hv (fun ds z => hne ds (by rw [z]))
      subst this
      exact ok_drop he nd (show Rep S _ _ _ from Rep.val (nr_vw hv))
    · exact trivial
  rw [Bool.and_true] at this
  have e : (fun en S => (f en S).bind fun d S1 => Rs.ok d S1) = f := by
    funext en S; cases f en S <;> rfl
  rw [e] at this
  exact this
def liftG (g : G2) (a b : M) : Option M := match a, b with
  | .val x, .val y => (g x y []).map fun r => .val r.1
  | _, _ => none
def vOp (g : G2) (va vb : VE) : VE := fun env => (va env).bind fun a e1 => (vb e1).bind fun b e2 => ofM (liftG g a b) e2
section ops
variable {p pa pb pc x xa xb xc : Bool} {fa fb fc : FE} {va vb vc : VE} {ga gb : FT} {ta tb : VT}
theorem bind2 {g : G2} (ha : SimE pa xa fa va) (hb : SimE pb xb fb vb) (hx : (xa || pb) = true) {R2 : So → M → D → List Nat → Prop} {kv : M → M → Option M}
    (h : ∀ (S : So) (a b m : M) (d e : D), Vw S a d → Vw S b e → kv a b = some m → ∃ r, g d e S = some (r, S) ∧ R2 S m r []) :
    SimR R2 (pa && pb) (fOp g fa fb) (fun env => (va env).bind fun a e1 => (vb e1).bind fun b e2 => ofM (kv a b) e2) := by
  have := SimR.bind (R2 := R2) (p2 := pb) (k := fun d en S => (fb en S).bind fun e S2 => ofO (g d e S2)) (kv := fun a e1 => (vb e1).bind fun b e2 => ofM (kv a b) e2) ha fun a d env en S As B he r nd => by
    have q := SimAt.map (p2 := true) (R2 := R2) (SimR.hold hb (stab_re hx) inl_re he r nd) (k := fun e S2 => ofO (g d e S2)) (kv := fun b e2 => ofM (kv a b) e2) fun b e env1 S1 As1 B1 he1 r1 nd1 => by
      obtain ⟨B2, B3, rfl, r2, r3⟩ := r1
      cases hk : kv a b with
      | none => exact trivial
      | some m =>
        obtain ⟨r, e1, e2⟩ := h S1 a b m d e r2.vw r3.vw hk
        rw [e1]
        exact ok_drop he1 nd1 e2
    rw [Bool.and_true] at q
    exact q
  exact this
theorem se_op {g : G2} (hg : OpV g) (ha : SimE pa xa fa va) (hb : SimE pb xb fb vb) (hx : (xa || pb) = true := by rfl) : SimE (pa && pb) true (fOp g fa fb) (vOp g va vb) :=
  bind2 ha hb hx fun S a b m d e r1 r2 hk => by
    unfold liftG at hk
    split at hk
    · rename_i x y
      cases hq : g x y [] with
      | none => rw [hq] at hk; cases hk
      | some r =>
        rw [hq] at hk
        obtain ⟨r, T⟩ := r
        simp only [Option.map_some, Option.some.injEq] at hk
        subst hk
        obtain ⟨h1, h2⟩ := hg.run S x y d e r T r1 r2 hq
        exact ⟨r, h1, show Rep S _ _ _ from Rep.val h2⟩
    · cases hk
/-- a new list that is owned -/
def ownM : M → Option M
  | .val (.lst ds) => some (.lst (ds.map M.val))
  | _ => none
def vOwn (v : VE) : VE := fun env => (v env).bind fun m e => ofM (ownM m) e
/-- the same with the new list in the store -/
structure OwnOp (g gm : G2) : Prop where
  run : ∀ (S : So) (d e : D) (ds : List D), g d e S = some (.lst ds, S) → gm d e S = some (.ref S.length, S ++ [.lst ds])
theorem new_at {env : Env} {en : En} {S : So} {As : List (List Nat)} {B : List Nat} {ds : List D} {ms : List M} {A : List Nat} (he : EnvR S env en As) (r : Reps S ms ds A) (nd : Nd (As.flatten ++ B)) (nd2 : Nd (As.flatten ++ A)) (hA : ∀ n ∈ A, n ∈ As.flatten ++ B ∨ S.length ≤ n) :
    SimAt (RE true) p S env en (As.flatten ++ B) (.ok (.ref S.length) (S ++ [O.lst ds])) (.ok (.lst ms) env) := by
  refine SimAt.ok (B := S.length :: A) he nd (fun n hn => by simp [hn]) ?_ ?_ ?_
  · show Rep _ _ _ _
    unfold Rep
    exact ⟨S.length, ds, A, rfl, by simp, r.more, rfl⟩
  · have : Nd ((As.flatten ++ A) ++ [S.length]) := nd2.app (Nd.one _) fun n hn z => by
      simp at z
      subst z
      rcases List.mem_append.mp hn with hn | hn
      · exact Nat.lt_irrefl _ (he.lt _ hn)
      · exact Nat.lt_irrefl _ (r.lt _ hn)
    exact this.le fun a => by simp only [List.count_append, List.count_cons, List.count_nil]; omega
  · intro n hn
    rcases List.mem_cons.mp hn with rfl | hn
    · exact .inr (Nat.le_refl _)
    · exact hA n hn
theorem se_opN {g gm : G2} (hg : OpV g) (hm : OwnOp g gm) (ha : SimE pa xa fa va) (hb : SimE pb xb fb vb) (hx : (xa || pb) = true := by rfl) : SimE (pa && pb) true (fOp gm fa fb) (vOwn (vOp g va vb)) := by
  have := SimR.bind (R2 := RE true) (p2 := pb) (k := fun d en S => (fb en S).bind fun e S2 => ofO (gm d e S2)) (kv := fun a e1 => (vb e1).bind fun b e2 => ofM ((liftG g a b).bind ownM) e2) ha fun a d env en S As B he r nd => by
    have q := SimAt.map (p2 := true) (R2 := RE true) (SimR.hold hb (stab_re hx) inl_re he r nd) (k := fun e S2 => ofO (gm d e S2)) (kv := fun b e2 => ofM ((liftG g a b).bind ownM) e2) fun b e env1 S1 As1 B1 he1 r1 nd1 => by
      obtain ⟨B2, B3, rfl, r2, r3⟩ := r1
      cases hk : (liftG g a b).bind ownM with
      | none => exact trivial
      | some m =>
        have r2 := r2.vw; have r3 := r3.vw
        unfold liftG at hk
        split at hk
        · rename_i x y _ _
          cases hq : g x y [] with
          | none => rw [hq] at hk; cases hk
          | some rr =>
            rw [hq] at hk
            obtain ⟨rr, T⟩ := rr
            simp only [Option.map_some, Option.bind_some] at hk
            unfold ownM at hk
            split at hk
            · rename_i ds heq
              cases heq; cases hk
              obtain ⟨h1, h2⟩ := hg.run S1 x y d e _ T r2 r3 hq
              rw [hm.run S1 d e ds h1]
              exact new_at he1 (Reps.vals (by simpa [nr] using h2)) nd1 (by simpa using nd1.left) (by simp)
            · cases hk
        · cases hk
    rw [Bool.and_true] at q
    exact q
  have e : (vOwn (vOp g va vb)) = (fun env => (va env).bind fun a e1 => (vb e1).bind fun b e2 => ofM ((liftG g a b).bind ownM) e2) := by
    funext env
    simp only [vOwn, vOp]
    cases va env with
    | ok a e1 =>
      simp only [Rv.bind]
      cases vb e1 with
      | ok b e2 => simp only [Rv.bind]; cases liftG g a b <;> rfl
      | ex => rfl
      | no => rfl
    | ex => rfl
    | no => rfl
  rw [e]
  exact this
theorem own_add : OwnOp (gAdd false) (gAdd true) := ⟨fun S d e ds h => by
  unfold gAdd at h ⊢
  split at h
  · cases h
  · split at h <;> cases h
  · split at h <;> cases h
  · split at h
    · split at h
      · rename_i hc
        rw [if_pos hc]
        simp only [newL_f, Option.some.injEq, Prod.mk.injEq, D.lst.injEq] at h
        rw [← h.1]; rfl
      · cases h
    · cases h⟩
theorem own_mul : OwnOp (gMul false) (gMul true) := ⟨fun S d e ds h => by
  unfold gMul at h ⊢
  split at h
  · split at h <;> cases h
  · split at h
    · split at h
      · rename_i hc
        rw [if_pos hc]
        simp only [newL_f, Option.some.injEq, Prod.mk.injEq, D.lst.injEq] at h
        rw [← h.1]; rfl
      · cases h
    · cases h
  · cases h⟩
end ops
end VF

namespace VF
open PySem L2 PF
variable [Tab]
theorem lim_le {n : Nat} (h : n ≤ 1000000) : n ≤ sizeLine := by unfold sizeLine; omega
theorem lim_lt {n : Nat} (h : n < 1000000) : n < sizeLine := by unfold sizeLine; omega
section gen
variable {α β : Type} {R : So → α → β → List Nat → Prop} {p q : Bool}
theorem SimAt.imp {S : So} {env : Env} {en : En} {A : List Nat} {r : Rs β} {rv : Rv α} (h : SimAt R p S env en A r rv) (k : q = true → p = true) : SimAt R q S env en A r rv := by
  cases rv with
  | no => exact trivial
  | ex C e =>
    obtain ⟨S', As', e1, e2, e3, e4, e5⟩ := h
    exact ⟨S', As', e1, e2, e3, e4, fun z => e5 (k z)⟩
  | ok a e =>
    obtain ⟨b, S', As', B, e1, e2, e3, e4, e5, e6⟩ := h
    exact ⟨b, S', As', B, e1, e2, e3, e4, e5, fun z => e6 (k z)⟩
/-- more stood there before -/
theorem SimAt.wide {S : So} {env : Env} {en : En} {A A' : List Nat} {r : Rs β} {rv : Rv α} (h : SimAt R p S env en A r rv) (k : ∀ n ∈ A, n ∈ A') : SimAt R p S env en A' r rv := by
  cases rv with
  | no => exact trivial
  | ex C e =>
    obtain ⟨S', As', e1, e2, e3, e4, e5⟩ := h
    exact ⟨S', As', e1, e2, e3, ⟨e4.len, fun n hl hn => e4.same n hl (fun z => hn (k n z)), fun n hn => (e4.new n hn).elim (fun z => .inl (k n z)) .inr⟩, e5⟩
  | ok a e =>
    obtain ⟨b, S', As', B, e1, e2, e3, e4, e5, e6⟩ := h
    exact ⟨b, S', As', B, e1, e2, e3, e4, ⟨e5.len, fun n hl hn => e5.same n hl (fun z => hn (k n z)), fun n hn => (e5.new n hn).elim (fun z => .inl (k n z)) .inr⟩, e6⟩
theorem SimR.at {f : En → So → Rs β} {v : Env → Rv α} (h : SimR R p f v) {env : Env} {en : En} {S : So} {As : List (List Nat)} {B : List Nat} (he : EnvR S env en As) (nd : Nd (As.flatten ++ B)) (k : q = true → p = true) : SimAt R q S env en (As.flatten ++ B) (f en S) (v env) :=
  ((h.run env en S As he nd.left).imp k).wide fun n hn => by simp [hn]
theorem ok_dropG {S : So} {env : Env} {en : En} {As : List (List Nat)} {B : List Nat} {a : α} {b : β} (he : EnvR S env en As) (nd : Nd (As.flatten ++ B)) (r : R S a b []) : SimAt R p S env en (As.flatten ++ B) (.ok b S) (.ok a env) := by
  have := SimAt.ok (R := R) (p := p) (J := []) (en := en) (B := []) he nd (fun n hn => by simp [hn]) (by simpa using r) (by simpa using nd.left) (by simp)
  rw [List.append_nil] at this
  exact this
/-- one way or the other -/
theorem SimR.ite {pc p1 p2 : Bool} {fc : FT} {vc : VT} {f1 f2 : En → So → Rs β} {v1 v2 : Env → Rv α} (hc : SimT pc fc vc) (h1 : SimR R p1 f1 v1) (h2 : SimR R p2 f2 v2) :
    SimR R (pc && (p1 && p2)) (fun en S => (fc en S).bind fun k S1 => if k = true then f1 en S1 else f2 en S1) (fun env => (vc env).bind fun k e => if k = true then v1 e else v2 e) :=
  SimR.bind hc fun a b env en S As B he r nd => by
    obtain ⟨rfl, rfl⟩ := r
    cases b with
    | true => exact h1.at he nd (fun z => by simp at z; exact z.1)
    | false => exact h2.at he nd (fun z => by simp at z; exact z.2)
end gen
section cases
variable {α β : Type} {R : So → α → β → List Nat → Prop} {p : Bool} {S : So} {env : Env} {en : En} {A : List Nat} {r : Rs β}
theorem at_vals {ms : List M} {k : List D → Rv α} (h : ∀ ds, valsM ms = some ds → SimAt R p S env en A r (k ds)) : SimAt R p S env en A r (match valsM ms with
    | some ds => k ds
    | none => .no) := by
  cases e : valsM ms with
  | none => exact trivial
  | some ds => exact h ds e
theorem at_if {c : Prop} [Decidable c] {rv : Rv α} (h : c → SimAt R p S env en A r rv) : SimAt R p S env en A r (if c then rv else .no) := by
  by_cases hc : c
  · rw [if_pos hc]; exact h hc
  · rw [if_neg hc]; exact trivial
end cases
section tests
variable {p pa pb pc pd x xa xb xc xd : Bool} {fa fb fc fd : FE} {va vb vc vd : VE} {ga gb : FT} {ta tb : VT}
def isBm (m : M) (e : Env) : Rv Bool := match m with
  | .val (.bl b) => .ok b e
  | _ => .no
def vTst (v : VE) : VT := fun env => (v env).bind isBm
theorem st_tst (h : SimE p x fa va) : SimT p (fTst fa) (vTst va) := by
  have := SimR.bind (R2 := RB) (p2 := true) (k := fun d en S => isB d S) (kv := isBm) h fun a d env en S As B he r nd => by
    unfold isBm
    split
    · rename_i b
      have : d = .bl b := vwd_eq r.vw (by simp)
      subst this
      exact ok_dropG he nd ⟨rfl, rfl⟩
    · exact trivial
  rw [Bool.and_true] at this
  exact this
def isTm (m : M) (e : Env) : Rv Bool := match m with
  | .val d => match truD [] d with
    | some b => .ok b e
    | none => .no
  | _ => .no
def vTru (v : VE) : VT := fun env => (v env).bind isTm
theorem st_tru (h : SimE p x fa va) : SimT p (fTru fa) (vTru va) := by
  have := SimR.bind (R2 := RB) (p2 := true) (k := fun d en S => isT d S) (kv := isTm) h fun a d env en S As B he r nd => by
    unfold isTm
    split
    · rename_i y
      have hv : VwD S y d := r.vw
      split
      · rename_i b hb
        have : isT d S = .ok b S := by unfold isT; rw [tru_vw hv, hb]
        rw [this]
        exact ok_dropG he nd ⟨rfl, rfl⟩
      · exact trivial
    · exact trivial
  rw [Bool.and_true] at this
  exact this
def vNotT (g : VT) : VT := fun env => (g env).bind fun k e => .ok (!k) e
theorem st_not (h : SimT p ga ta) : SimT p (fNotT ga) (vNotT ta) := by
  have := SimR.bind (R2 := RB) (p2 := true) (k := fun k en S => .ok (!k) S) (kv := fun k e => .ok (!k) e) h fun a d env en S As B he r nd => by
    obtain ⟨rfl, rfl⟩ := r
    exact ok_dropG he nd ⟨rfl, rfl⟩
  rw [Bool.and_true] at this
  exact this
def vAndT (g h : VT) : VT := fun env => (g env).bind fun k e => if k = true then h e else .ok false e
def vOrT (g h : VT) : VT := fun env => (g env).bind fun k e => if k = true then .ok true e else h e
theorem sim_b (b : Bool) : SimT true (fun _ S => .ok b S) (fun e => .ok b e) := ⟨fun env en S As he nd => by
  have := ok_dropG (R := RB) (p := true) (B := []) (a := b) (b := b) (en := en) he (by simpa using nd) ⟨rfl, rfl⟩
  simpa using this⟩
theorem st_and (h : SimT pa ga ta) (k : SimT pb gb tb) : SimT (pa && pb) (fAndT ga gb) (vAndT ta tb) := by
  have := SimR.ite h k (sim_b false)
  rw [Bool.and_true] at this
  exact this
theorem st_or (h : SimT pa ga ta) (k : SimT pb gb tb) : SimT (pa && pb) (fOrT ga gb) (vOrT ta tb) := by
  have := SimR.ite h (sim_b true) k
  rw [Bool.true_and] at this
  exact this
def vIf (g : VT) (v h : VE) : VE := fun env => (g env).bind fun k e => if k = true then v e else h e
theorem se_if (h : SimT p ga ta) (ha : SimE pa x fa va) (hb : SimE pb x fb vb) : SimE (p && (pa && pb)) x (fIf ga fa fb) (vIf ta va vb) := SimR.ite h ha hb
def vIfT (g : VT) (v h : VT) : VT := fun env => (g env).bind fun k e => if k = true then v e else h e
theorem st_if {gc : FT} {tc : VT} (h : SimT p gc tc) (ha : SimT pa ga ta) (hb : SimT pb gb tb) : SimT (p && (pa && pb)) (fIfT gc ga gb) (vIfT tc ta tb) := SimR.ite h ha hb
/-- bools as values -/
def asBm (m : M) (k : Bool → Rv M) : Rv M := match m with
  | .val (.bl b) => k b
  | _ => .no
theorem at_bl {R : So → M → D → List Nat → Prop} {S : So} {env : Env} {en : En} {A : List Nat} {r : Rs D} {a : M} {k : Bool → Rv M} (h : ∀ b, a = .val (.bl b) → SimAt R p S env en A r (k b)) : SimAt R p S env en A r (asBm a k) := by
  cases a with
  | val d => cases d <;> first | exact trivial | exact h _ rfl
  | _ => exact trivial
def vAndV (f g : VE) : VE := fun env => (f env).bind fun m e => asBm m fun k => if k = true then g e else .ok (.val (.bl false)) e
def vOrV (f g : VE) : VE := fun env => (f env).bind fun m e => asBm m fun k => if k = true then .ok (.val (.bl true)) e else g e
def vNotV (f : VE) : VE := fun env => (f env).bind fun m e => asBm m fun k => .ok (.val (.bl (!k))) e
theorem re_bl (x b : Bool) {S : So} : RE x S (.val (.bl b)) (.bl b) [] := by
  cases x with
  | true => exact (show Rep S _ _ _ from Rep.val rfl)
  | false => exact ⟨.inl ⟨rfl, rfl⟩, rfl⟩
theorem se_andV (h : SimE pa xa fa va) (k : SimE pb x fb vb) : SimE (pa && pb) x (fAndV fa fb) (vAndV va vb) :=
  SimR.bind (k := fun d en S1 => match d with
    | .bl k => if k = true then fb en S1 else .ok (.bl false) S1
    | _ => .no) h fun a d env en S As B he r nd => by
    refine at_bl fun b ha => ?_
    subst ha
    have : d = .bl b := vwd_eq r.vw (by simp)
    subst this
    cases b with
    | true => exact k.at he nd (fun z => z)
    | false => exact ok_dropG he nd (re_bl x false)
theorem se_orV (h : SimE pa xa fa va) (k : SimE pb x fb vb) : SimE (pa && pb) x (fOrV fa fb) (vOrV va vb) :=
  SimR.bind (k := fun d en S1 => match d with
    | .bl k => if k = true then .ok (.bl true) S1 else fb en S1
    | _ => .no) h fun a d env en S As B he r nd => by
    refine at_bl fun b ha => ?_
    subst ha
    have : d = .bl b := vwd_eq r.vw (by simp)
    subst this
    cases b with
    | false => exact k.at he nd (fun z => z)
    | true => exact ok_dropG he nd (re_bl x true)
theorem se_notV (h : SimE pa xa fa va) : SimE pa true (fNotV fa) (vNotV va) := by
  have := SimR.bind (R2 := RE true) (p2 := true) (k := fun d en S1 => match d with
    | .bl k => .ok (.bl (!k)) S1
    | _ => .no) (kv := fun m e => asBm m fun k => .ok (.val (.bl (!k))) e) h fun a d env en S As B he r nd => by
    refine at_bl fun b ha => ?_
    subst ha
    have : d = .bl b := vwd_eq r.vw (by simp)
    subst this
    exact ok_dropG he nd (re_bl true (!b))
  rw [Bool.and_true] at this
  exact this
/-- a op b op' c -/
def vChain (g g' : G2) (va vb vc : VE) : VE := fun env => (va env).bind fun a e1 => (vb e1).bind fun b e2 => (ofM (liftG g a b) e2).bind fun z e3 => asBm z fun k => if k = true then (vc e3).bind fun c e4 => ofM (liftG g' b c) e4 else .ok (.val (.bl false)) e3
theorem lift_run {g : G2} (hg : OpV g) {S : So} {a b m : M} {d e : D} (ra : Vw S a d) (rb : Vw S b e) (h : liftG g a b = some m) : ∃ r, m = .val r ∧ g d e S = some (r, S) ∧ nr r = true := by
  unfold liftG at h
  split at h
  · rename_i x y
    cases hq : g x y [] with
    | none => rw [hq] at h; cases h
    | some r =>
      rw [hq] at h
      obtain ⟨r, T⟩ := r
      simp only [Option.map_some, Option.some.injEq] at h
      subst h
      obtain ⟨h1, h2⟩ := hg.run S x y d e r T ra rb hq
      exact ⟨r, rfl, h1, h2⟩
  · cases h
/-- the last comparison, its left side held -/
theorem last_cmp {g : G2} (hg : OpV g) (hc : SimE pc xc fc vc) (hx : (xb || pc) = true) {b : M} {y : D} {env : Env} {en : En} {S : So} {As : List (List Nat)} {B : List Nat} (he : EnvR S env en As) (r : RE xb S b y B) (nd : Nd (As.flatten ++ B)) :
    SimAt (RE true) pc S env en (As.flatten ++ B) ((fc en S).bind fun w S4 => ofO (g y w S4)) ((vc env).bind fun c e4 => ofM (liftG g b c) e4) := by
  have q := SimAt.map (p2 := true) (R2 := RE true) (SimR.hold hc (stab_re hx) inl_re he r nd) (k := fun e S2 => ofO (g y e S2)) (kv := fun c e2 => ofM (liftG g b c) e2) fun c e env1 S1 As1 B1 he1 r1 nd1 => by
    obtain ⟨B2, B3, rfl, r2, r3⟩ := r1
    cases hk : liftG g b c with
    | none => exact trivial
    | some m =>
      obtain ⟨r, rfl, e1, e2⟩ := lift_run hg r2.vw r3.vw hk
      rw [e1]
      exact ok_dropG he1 nd1 (show Rep _ _ _ _ from Rep.val e2)
  rw [Bool.and_true] at q
  exact q
theorem se_chain {g g' : G2} (hg : OpV g) (hg' : OpV g') (ha : SimE pa xa fa va) (hb : SimE pb xb fb vb) (hc : SimE pc xc fc vc) (hx : (xa || pb) = true := by rfl) (hy : (xb || pc) = true := by rfl) : SimE (pa && (pb && pc)) true (fChain g g' fa fb fc) (vChain g g' va vb vc) :=
  SimR.bind ha fun a x env en S As B he r nd => by
    refine SimAt.map (p2 := pc) (R2 := RE true) (SimR.hold hb (stab_re hx) inl_re he r nd) (kv := fun b e2 => (ofM (liftG g a b) e2).bind fun z e3 => asBm z fun k => if k = true then (vc e3).bind fun c e4 => ofM (liftG g' b c) e4 else .ok (.val (.bl false)) e3) fun b y env1 S1 As1 B1 he1 r1 nd1 => ?_
    obtain ⟨B2, B3, rfl, r2, r3⟩ := r1
    cases hk : liftG g a b with
    | none => exact trivial
    | some m =>
      obtain ⟨r, rfl, e1, e2⟩ := lift_run hg r2.vw r3.vw hk
      rw [e1]
      show SimAt _ _ _ _ _ _ _ (asBm (.val r) _)
      unfold asBm
      split
      · rename_i k heq
        cases heq
        cases k with
        | true =>
          have nd2 : Nd (As1.flatten ++ B3) := nd1.le fun a => by simp only [List.count_append]; omega
          exact (last_cmp hg' hc hy he1 r3 nd2).wide fun n hn => by simp only [List.mem_append] at hn ⊢; rcases hn with hn | hn <;> simp [hn]
        | false => exact ok_dropG he1 nd1 (re_bl true false)
      · exact trivial
/-- a op b op' c op'' d -/
def vChain3 (g g' g'' : G2) (va vb vc vd : VE) : VE := fun env => (va env).bind fun a e1 => (vb e1).bind fun b e2 => (ofM (liftG g a b) e2).bind fun z e3 => asBm z fun k => if k = true then (vc e3).bind fun c e4 => (ofM (liftG g' b c) e4).bind fun z e5 => asBm z fun k => if k = true then (vd e5).bind fun d e6 => ofM (liftG g'' c d) e6 else .ok (.val (.bl false)) e5 else .ok (.val (.bl false)) e3
end tests
section args
variable {p pa pb pc x xa xb xc : Bool} {fa fb fc : FE} {va vb vc : VE} {gs : FA} {ws : VA}
def vNil : VA := fun env => .ok [] env
def vCons (f : VE) (g : VA) : VA := fun env => (f env).bind fun m e => (g e).bind fun ms e2 => .ok (m :: ms) e2
theorem sa_nil : SimA true fNil vNil := ⟨fun env en S As he nd => by
  have := ok_dropG (R := Reps) (p := true) (B := []) (en := en) he (by simpa using nd) (Reps.nil (S := S))
  rw [List.append_nil] at this
  exact this⟩
theorem sa_cons (ha : SimE pa true fa va) (hb : SimA pb gs ws) : SimA (pa && pb) (fCons fa gs) (vCons va ws) :=
  SimR.bind ha fun a d env en S As B he r nd => by
    have q := SimAt.map (p2 := true) (R2 := Reps) (SimR.hold hb (stab_rep pb) inl_re he r nd) (k := fun ds S2 => .ok (d :: ds) S2) (kv := fun ms e2 => .ok (a :: ms) e2) fun ms ds env1 S1 As1 B1 he1 r1 nd1 => by
      obtain ⟨B2, B3, rfl, r2, r3⟩ := r1
      have := SimAt.ok (R := Reps) (p := true) (J := []) (en := en) (B := B2 ++ B3) he1 nd1 (fun n hn => by simp [hn]) (by rw [List.append_nil]; exact Reps.cons r2 r3) nd1 (fun n hn => .inl (by simp only [List.mem_append] at hn ⊢; exact .inr hn))
      rw [List.append_nil] at this
      exact this
    rw [Bool.and_true] at q
    exact q
/-- arguments that are looked at alone -/
def RAv (S : So) (ms : List M) (ds : List D) (B : List Nat) : Prop := B = [] ∧ ms.length = ds.length ∧ ∀ (i : Nat) m d, ms[i]? = some m → ds[i]? = some d → Vw S m d
abbrev SimAV (p : Bool) (f : FA) (v : VA) : Prop := SimR RAv p f v
theorem sav_nil : SimAV true fNil vNil := ⟨fun env en S As he nd => by
  have := ok_dropG (R := RAv) (p := true) (B := []) (a := []) (b := []) (en := en) he (by simpa using nd) ⟨rfl, rfl, by simp⟩
  rw [List.append_nil] at this
  exact this⟩
theorem sav_cons (ha : SimE pa xa fa va) (hb : SimAV pb gs ws) (hx : (xa || pb) = true := by rfl) : SimAV (pa && pb) (fCons fa gs) (vCons va ws) :=
  SimR.bind ha fun a d env en S As B he r nd => by
    have q := SimAt.map (p2 := true) (R2 := RAv) (SimR.hold hb (stab_re hx) inl_re he r nd) (k := fun ds S2 => .ok (d :: ds) S2) (kv := fun ms e2 => .ok (a :: ms) e2) fun ms ds env1 S1 As1 B1 he1 r1 nd1 => by
      obtain ⟨B2, B3, rfl, r2, r3⟩ := r1
      refine ok_dropG he1 nd1 ⟨rfl, by simp [r3.2.1], fun i m e h1 h2 => ?_⟩
      cases i with
      | zero => simp at h1 h2; subst h1; subst h2; exact r2.vw
      | succ i => exact r3.2.2 i m e (by simpa using h1) (by simpa using h2)
    rw [Bool.and_true] at q
    exact q
theorem rav_vwds {S : So} {ds : List D} : ∀ {xs : List D} {B : List Nat}, RAv S (xs.map M.val) ds B → VwDs S xs ds
  := by
  intro xs
  induction xs generalizing ds with
  | nil => intro B h; have := h.2.1; cases ds with
    | nil => rfl
    | cons _ _ => simp at this
  | cons x xs ih =>
    intro B h
    cases ds with
    | nil => have := h.2.1; simp at this
    | cons d ds =>
      refine ⟨d, ds, rfl, h.2.2 0 (.val x) d rfl rfl, ih (B := []) ⟨rfl, by have := h.2.1; simpa using this, fun i m e h1 h2 => h.2.2 (i + 1) m e (by simpa using h1) (by simpa using h2)⟩⟩
def liftA (g : GA) (ms : List M) : Option M := match valsM ms with
  | some xs => (g xs []).map fun r => .val r.1
  | none => none
def vCB (g : GA) (va : VA) : VE := fun env => (va env).bind fun ms e => ofM (liftA g ms) e
theorem liftA_run {g : GA} (hg : CallV g) {S : So} {ms : List M} {ds : List D} {B : List Nat} {m : M} (ra : RAv S ms ds B) (h : liftA g ms = some m) : ∃ r, m = .val r ∧ g ds S = some (r, S) ∧ nr r = true := by
  unfold liftA at h
  split at h
  · rename_i xs hx
    rw [valsM_eq hx] at ra
    cases hq : g xs [] with
    | none => rw [hq] at h; cases h
    | some r =>
      rw [hq] at h
      obtain ⟨r, T⟩ := r
      simp only [Option.map_some, Option.some.injEq] at h
      subst h
      obtain ⟨h1, h2⟩ := hg.run S xs ds r T (rav_vwds ra) hq
      exact ⟨r, rfl, h1, h2⟩
  · cases h
theorem se_cb {g : GA} (hg : CallV g) (ha : SimAV pa gs ws) : SimE pa true (fCB g gs) (vCB g ws) := by
  have := SimR.bind (R2 := RE true) (p2 := true) (k := fun ds en S => ofO (g ds S)) (kv := fun ms e => ofM (liftA g ms) e) ha fun ms ds env en S As B he r nd => by
    cases hk : liftA g ms with
    | none => exact trivial
    | some m =>
      obtain ⟨r, rfl, e1, e2⟩ := liftA_run hg r hk
      rw [e1]
      exact ok_dropG he nd (show Rep _ _ _ _ from Rep.val e2)
  rw [Bool.and_true] at this
  exact this
structure OwnCall (g gm : GA) : Prop where
  run : ∀ (S : So) (es : List D) (ds : List D), g es S = some (.lst ds, S) → gm es S = some (.ref S.length, S ++ [.lst ds])
theorem se_cbN {g gm : GA} (hg : CallV g) (hm : OwnCall g gm) (ha : SimAV pa gs ws) : SimE pa true (fCB gm gs) (vOwn (vCB g ws)) := by
  have := SimR.bind (R2 := RE true) (p2 := true) (k := fun ds en S => ofO (gm ds S)) (kv := fun ms e => ofM ((liftA g ms).bind ownM) e) ha fun ms ds env en S As B he r nd => by
    cases hk : (liftA g ms).bind ownM with
    | none => exact trivial
    | some m =>
      cases hl : liftA g ms with
      | none => rw [hl] at hk; cases hk
      | some y =>
        rw [hl] at hk
        obtain ⟨r, rfl, e1, e2⟩ := liftA_run hg r hl
        simp only [Option.bind_some] at hk
        unfold ownM at hk
        split at hk
        · rename_i es heq
          cases heq; cases hk
          rw [hm.run S ds es e1]
          exact new_at he (Reps.vals (by simpa [nr] using e2)) nd (by simpa using nd.left) (by simp)
        · cases hk
  rw [Bool.and_true] at this
  have e : (vOwn (vCB g ws)) = (fun env => (ws env).bind fun ms e => ofM ((liftA g ms).bind ownM) e) := by
    funext env
    simp only [vOwn, vCB]
    cases ws env with
    | ok a e1 => simp only [Rv.bind]; cases liftA g a <;> rfl
    | ex => rfl
    | no => rfl
  rw [e]
  exact this
theorem own_sorted : OwnCall (gSorted false) (gSorted true) := ⟨fun S es ds h => by
  unfold gSorted at h ⊢
  split at h
  · split at h
    · split at h
      · simp only [newL_f, Option.some.injEq, Prod.mk.injEq, D.lst.injEq] at h
        simp only [newL_t, h.1]
      · cases h
    · cases h
  · cases h⟩
theorem own_list : OwnCall (gList false) (gList true) := ⟨fun S es ds h => by
  unfold gList at h ⊢
  split at h
  · split at h
    · simp only [newL_f, Option.some.injEq, Prod.mk.injEq, D.lst.injEq] at h
      simp only [newL_t, h.1]
    · cases h
  · cases h⟩
/-- displays -/
def vTup (g : VA) : VE := fun env => (g env).bind fun ms e => match valsM ms with
  | some ds => if ds.length ≤ 1000000 then .ok (.val (.tup ds)) e else .no
  | none => .no
theorem se_tup (ha : SimA pa gs ws) : SimE pa true (fTup gs) (vTup ws) := by
  have := SimR.bind (R2 := RE true) (p2 := true) (k := fun ds en S1 => if ds.length ≤ sizeLine then .ok (.tup ds) S1 else .no) (kv := fun ms e => match valsM ms with
    | some ds => if ds.length ≤ 1000000 then .ok (.val (.tup ds)) e else .no
    | none => .no) ha fun ms ds env en S As B he r nd => by
    refine at_vals fun es hm => at_if fun hl => ?_
    rw [valsM_eq hm] at r
    obtain ⟨e1, h4, e2⟩ := Reps.vals_of r
    subst e1
    rw [if_pos (lim_le hl)]
    exact ok_dropG he nd (show Rep _ _ _ _ from Rep.val (by simpa [nr] using h4))
  rw [Bool.and_true] at this
  exact this
def vLst (g : VA) : VE := fun env => (g env).bind fun ms e => match valsM ms with
  | some ds => if ds.length ≤ 1000000 then .ok (.val (.lst ds)) e else .no
  | none => .no
theorem se_lst (ha : SimA pa gs ws) : SimE pa true (fLst false gs) (vLst ws) := by
  have := SimR.bind (R2 := RE true) (p2 := true) (k := fun ds en S1 => if ds.length ≤ sizeLine then ofO (some (newL false ds S1)) else .no) (kv := fun ms e => match valsM ms with
    | some ds => if ds.length ≤ 1000000 then .ok (.val (.lst ds)) e else .no
    | none => .no) ha fun ms ds env en S As B he r nd => by
    refine at_vals fun es hm => at_if fun hl => ?_
    rw [valsM_eq hm] at r
    obtain ⟨e1, h4, e2⟩ := Reps.vals_of r
    subst e1
    rw [if_pos (lim_le hl)]
    exact ok_dropG he nd (show Rep _ _ _ _ from Rep.val (by simpa [nr] using h4))
  rw [Bool.and_true] at this
  exact this
def vLstN (g : VA) : VE := fun env => (g env).bind fun ms e => if ms.length ≤ 1000000 then .ok (.lst ms) e else .no
theorem se_lstN (ha : SimA pa gs ws) : SimE pa true (fLst true gs) (vLstN ws) := by
  have := SimR.bind (R2 := RE true) (p2 := true) (k := fun ds en S1 => if ds.length ≤ sizeLine then ofO (some (newL true ds S1)) else .no) (kv := fun ms e => if ms.length ≤ 1000000 then .ok (.lst ms) e else .no) ha fun ms ds env en S As B he r nd => by
    refine at_if fun hl => ?_
    rw [if_pos (lim_le (by rw [← r.length]; exact hl))]
    exact new_at he r nd nd (fun n hn => .inl (by simp [hn]))
  rw [Bool.and_true] at this
  exact this
end args
end VF

namespace VF
open PySem L2 PF
variable [Tab]
theorem set_self {α : Type} : ∀ {l : List α} {j : Nat} {a : α}, l[j]? = some a → l.set j a = l
  | [], j, a, h => by simp at h
  | b :: l, 0, a, h => by simp at h; subst h; rfl
  | b :: l, j + 1, a, h => by rw [List.set_cons_succ, set_self (by simpa using h)]
/-! ### parts of what is owned -/
inductive Stp where
  | fld (C : Addr) (k : Nat) (x : Str) | ix (j : Nat)
def M.sub : Stp → M → Option M
  | .fld C k x, .ins C' ns ms => if C' = C ∧ ns[k]? = some x then ms[k]? else none
  | .ix j, .lst ms => ms[j]?
  | _, _ => none
def M.wr : Stp → M → M → M
  | .fld _ k _, .ins C ns ms, m => .ins C ns (ms.set k m)
  | .ix j, .lst ms, m => .lst (ms.set j m)
  | _, m0, _ => m0
def M.at : List Stp → M → Option M
  | [], m => some m
  | s :: p, m => match m.sub s with
    | some m' => M.at p m'
    | none => none
def M.wrs : List Stp → M → M → M
  | [], _, m2 => m2
  | s :: p, m, m2 => match m.sub s with
    | some m' => m.wr s (M.wrs p m' m2)
    | none => m
/-- the same in the store -/
def StpR (S : So) (s : Stp) (d e : D) : Prop := match s with
  | .fld C k x => ∃ n fs, d = .ref n ∧ S[n]? = some (.ins C fs) ∧ fs[k]? = some (x, e) ∧ ∀ j, j < k → ∀ y, fs[j]? = some y → y.1 ≠ x
  | .ix j => ∃ n ds, d = .ref n ∧ S[n]? = some (.lst ds) ∧ ds[j]? = some e
def PathR (S : So) : List Stp → D → D → Prop
  | [], d, e => e = d
  | s :: p, d, e => ∃ c, StpR S s d c ∧ PathR S p c e
theorem StpR.more {S J : So} {s : Stp} {d e : D} (h : StpR S s d e) : StpR (S ++ J) s d e := by
  cases s with
  | fld C k x => obtain ⟨n, fs, h1, h2, h3⟩ := h; exact ⟨n, fs, h1, by rw [get_app (List.getElem?_eq_some_iff.mp h2).1]; exact h2, h3⟩
  | ix j => obtain ⟨n, fs, h1, h2, h3⟩ := h; exact ⟨n, fs, h1, by rw [get_app (List.getElem?_eq_some_iff.mp h2).1]; exact h2, h3⟩
theorem PathR.more {S J : So} : ∀ {p : List Stp} {d e : D}, PathR S p d e → PathR (S ++ J) p d e
  | [], d, e, h => h
  | s :: p, d, e, ⟨c, h1, h2⟩ => ⟨c, h1.more, PathR.more h2⟩
theorem PathR.snoc {S : So} {s : Stp} : ∀ {p : List Stp} {d c e : D}, PathR S p d c → StpR S s c e → PathR S (p ++ [s]) d e
  | [], d, c, e, h, k => by cases h; exact ⟨e, k, rfl⟩
  | t :: p, d, c, e, ⟨b, h1, h2⟩, k => ⟨b, h1, PathR.snoc h2 k⟩
theorem StpR.det {S : So} {s : Stp} {d e e' : D} (h : StpR S s d e) (k : StpR S s d e') : e = e' := by
  cases s with
  | fld C k' x =>
    obtain ⟨n, fs, rfl, h2, h3, _⟩ := h
    obtain ⟨m, gs, q, g2, g3, _⟩ := k
    cases q
    rw [h2] at g2; cases g2
    rw [h3] at g3; cases g3; rfl
  | ix j =>
    obtain ⟨n, fs, rfl, h2, h3⟩ := h
    obtain ⟨m, gs, q, g2, g3⟩ := k
    cases q
    rw [h2] at g2; cases g2
    rw [h3] at g3; cases g3; rfl
theorem PathR.det {S : So} : ∀ {p : List Stp} {d e e' : D}, PathR S p d e → PathR S p d e' → e = e'
  | [], d, e, e', h, k => by cases h; cases k; rfl
  | s :: p, d, e, e', ⟨c, h1, h2⟩, ⟨c', k1, k2⟩ => by
    have := h1.det k1
    subst this
    exact PathR.det h2 k2
theorem nodup_take_ne {ns : List Str} {k j : Nat} {x y : Str} (nd : ns.Nodup) (hx : ns[k]? = some x) (hy : ns[j]? = some y) (h : j < k) : y ≠ x := fun q => by
  subst q
  have h1 := (List.getElem?_eq_some_iff.mp hx)
  have h2 := (List.getElem?_eq_some_iff.mp hy)
  have := (List.getElem_inj nd).mp (h1.2.trans h2.2.symm)
  omega
theorem sub_rep {S : So} {s : Stp} {m m' : M} {d : D} {A : List Nat} (h : Rep S m d A) (k : m.sub s = some m') :
    ∃ e A1 A' A2, StpR S s d e ∧ A = A1 ++ A' ++ A2 ∧ Rep S m' e A' ∧ ∀ (S2 : So) (m2 : M) (B : List Nat), (∀ n ∈ A1 ++ A2, S2[n]? = S[n]?) → Rep S2 m2 e B → Rep S2 (m.wr s m2) d (A1 ++ B ++ A2) := by
  cases s with
  | fld C k' x =>
    cases m with
    | ins C' ns ms =>
      simp only [M.sub] at k
      split at k
      · rename_i hc
        obtain ⟨rfl, hx⟩ := hc
        unfold Rep at h
        obtain ⟨n, fs, B, rfl, h2, h3, h4, h5, rfl⟩ := h
        obtain ⟨e, A1, A', A2, g1, rfl, g3, g4⟩ := Reps.at h5 k
        have hk : k' < fs.length := by
          have := (List.getElem?_eq_some_iff.mp g1).1
          simpa using this
        have hfk : fs[k']? = some (x, e) := by
          rw [List.getElem?_map, List.getElem?_eq_getElem hk] at g1
          have e2 : (fs.map (·.1))[k']? = some x := by rw [h4, List.getElem?_take, if_pos hk]; exact hx
          rw [List.getElem?_map, List.getElem?_eq_getElem hk] at e2
          rw [List.getElem?_eq_getElem hk]
          simp only [Option.map_some, Option.some.injEq] at g1 e2
          rw [← g1, ← e2]
        refine ⟨e, n :: A1, A', A2, ⟨n, fs, rfl, h2, hfk, fun j hj y hy => ?_⟩, rfl, g3, fun S2 m2 B2 f r => ?_⟩
        · have hjl : j < fs.length := by omega
          have e2 : (fs.map (·.1))[j]? = ns[j]? := by rw [h4, List.getElem?_take, if_pos hjl]
          rw [List.getElem?_map, hy] at e2
          exact nodup_take_ne h3 hx e2.symm hj
        · simp only [M.wr]
          unfold Rep
          have hs := g4 S2 m2 e B2 (fun z hz => f z (by simp only [List.mem_append] at hz; simp only [List.cons_append, List.mem_cons, List.mem_append]; exact .inr hz)) r
          have he : (fs.map (·.2)).set k' e = fs.map (·.2) := set_self g1
          rw [he] at hs
          exact ⟨n, fs, A1 ++ B2 ++ A2, rfl, by rw [f n (by simp)]; exact h2, h3, h4, hs, rfl⟩
      · cases k
    | _ => simp [M.sub] at k
  | ix j =>
    cases m with
    | lst ms =>
      simp only [M.sub] at k
      unfold Rep at h
      obtain ⟨n, ds, B, rfl, h2, h3, rfl⟩ := h
      obtain ⟨e, A1, A', A2, g1, rfl, g3, g4⟩ := Reps.at h3 k
      refine ⟨e, n :: A1, A', A2, ⟨n, ds, rfl, h2, g1⟩, rfl, g3, fun S2 m2 B2 f r => ?_⟩
      simp only [M.wr]
      unfold Rep
      have hs := g4 S2 m2 e B2 (fun z hz => f z (by simp only [List.mem_append] at hz; simp only [List.cons_append, List.mem_cons, List.mem_append]; exact .inr hz)) r
      rw [set_self g1] at hs
      exact ⟨n, ds, A1 ++ B2 ++ A2, rfl, by rw [f n (by simp)]; exact h2, hs, rfl⟩
    | _ => simp [M.sub] at k
theorem at_rep {S : So} : ∀ {p : List Stp} {m m' : M} {d : D} {A : List Nat}, Rep S m d A → m.at p = some m' →
    ∃ e A1 A' A2, PathR S p d e ∧ A = A1 ++ A' ++ A2 ∧ Rep S m' e A' ∧ ∀ (S2 : So) (m2 : M) (B : List Nat), (∀ n ∈ A1 ++ A2, S2[n]? = S[n]?) → Rep S2 m2 e B → Rep S2 (m.wrs p m2) d (A1 ++ B ++ A2)
  | [], m, m', d, A, h, k => by
    simp only [M.at] at k; cases k
    exact ⟨d, [], A, [], rfl, by simp, h, fun S2 m2 B f r => by simpa [M.wrs] using r⟩
  | s :: p, m, m', d, A, h, k => by
    simp only [M.at] at k
    split at k
    · rename_i m1 hm
      obtain ⟨e1, A1, A', A2, h1, rfl, h3, h4⟩ := sub_rep h hm
      obtain ⟨e, B1, B', B2, g1, rfl, g3, g4⟩ := at_rep h3 k
      refine ⟨e, A1 ++ B1, B', B2 ++ A2, ⟨e1, h1, g1⟩, by simp, g3, fun S2 m2 B f r => ?_⟩
      simp only [M.wrs, hm]
      have := h4 S2 _ _ (fun n hn => f n (by simp only [List.mem_append] at hn ⊢; rcases hn with hn | hn <;> simp [hn])) (g4 S2 m2 B (fun n hn => f n (by simp only [List.mem_append] at hn ⊢; rcases hn with hn | hn <;> simp [hn])) r)
      simpa using this
    · cases k
/-! ### places -/
abbrev Pl := Env → Option (Nat × List Stp)
def Env.look (env : Env) (i : Nat) (p : List Stp) : Option M := match env.o[i]? with
  | some (some m) => m.at p
  | _ => none
/-- s: the place is a name -/
structure SimP (s : Bool) (f : FE) (P : Pl) : Prop where
  run : ∀ (env : Env) (en : En) (S : So) (As : List (List Nat)) (i : Nat) (p : List Stp) (m : M), EnvR S env en As → Nd As.flatten → P env = some (i, p) → env.look i p = some m → ∃ J d0 d, f en S = .ok d (S ++ J) ∧ en[i]? = some (some d0) ∧ PathR S p d0 d
  nm : s = true → ∀ (env : Env) (i : Nat) (p : List Stp), P env = some (i, p) → p = []
def pVar (i : Nat) : Pl := fun env => some (i, [])
theorem sp_var (i : Nat) : SimP true (fVar i) (pVar i) := by
  refine ⟨fun env en S As j p m he nd h hl => ?_, fun _ env j p h => ?_⟩
  · simp only [pVar, Option.some.injEq, Prod.mk.injEq] at h
    obtain ⟨rfl, rfl⟩ := h
    unfold Env.look at hl
    split at hl
    · rename_i m0 h0
      obtain ⟨d, A, h1, h2, h3⟩ := at_var he h0
      exact ⟨[], d, d, by simp [fVar, h1], h1, rfl⟩
    · cases hl
  · simp only [pVar, Option.some.injEq, Prod.mk.injEq] at h; exact h.2.symm
theorem look_rep {S : So} {env : Env} {en : En} {As : List (List Nat)} {i : Nat} {p : List Stp} {m : M} (he : EnvR S env en As) (h : env.look i p = some m) :
    ∃ m0 d0 A, env.o[i]? = some (some m0) ∧ en[i]? = some (some d0) ∧ As[i]? = some A ∧ Rep S m0 d0 A ∧ m0.at p = some m := by
  unfold Env.look at h
  split at h
  · rename_i m0 h0
    obtain ⟨d, A, h1, h2, h3⟩ := at_var he h0
    exact ⟨m0, d, A, h0, h1, h2, h3, h⟩
  · cases h
def vGet (P : Pl) : VE := fun env => match P env with
  | some (i, p) => match env.look i p with
    | some m => ofM (lookM m) env
    | none => .no
  | none => .no
theorem se_get {s : Bool} {f : FE} {P : Pl} (h : SimP s f P) : SimE true false f (vGet P) := ⟨fun env en S As he nd => by
  unfold vGet
  split
  · rename_i i p hP
    cases hl : env.look i p with
    | none => exact trivial
    | some m =>
      obtain ⟨J, d0, d, h1, h2, h3⟩ := h.run env en S As i p m he nd hP hl
      obtain ⟨m0, d0', A, g1, g2, g3, g4, g5⟩ := look_rep he hl
      rw [h2] at g2; cases g2
      obtain ⟨e, A1, A', A2, k1, k2, k3, k4⟩ := at_rep g4 g5
      have := h3.det k1
      subst this
      show SimAt _ _ _ _ _ _ _ (ofM (lookM m) env)
      cases hx : lookM m with
      | none => exact trivial
      | some x =>
        rw [h1]
        exact SimAt.ok (B := []) he nd (fun _ h => h) ⟨(look_vw k3 hx).more, rfl⟩ (by simpa using nd) (by simp)
  · exact trivial⟩
/-- an item of a list that is owned -/
def pIx (P : Pl) (v : VE) : Pl := fun env => match P env with
  | some (i, p) => match env.look i p, v env with
    | some (.lst ms), .ok (.val (.int k)) _ => match ixN ms.length k with
      | some j => some (i, p ++ [.ix j])
      | none => none
    | _, _ => none
  | none => none
theorem at_app : ∀ (p : List Stp) (s : Stp) (m : M), m.at (p ++ [s]) = (m.at p).bind (M.sub s)
  | [], s, m => by
    show (match m.sub s with
      | some m' => some m'
      | none => none) = m.sub s
    cases m.sub s <;> rfl
  | t :: p, s, m => by
    simp only [List.cons_append, M.at]
    cases m.sub t with
    | none => rfl
    | some m' => exact at_app p s m'
theorem look_app {env : Env} {i : Nat} {p : List Stp} {s : Stp} {m : M} (h : env.look i (p ++ [s]) = some m) : ∃ m1, env.look i p = some m1 ∧ m1.sub s = some m := by
  unfold Env.look at h ⊢
  split at h
  · rename_i m0 h0
    rw [at_app] at h
    cases e : m0.at p with
    | none => rw [e] at h; cases h
    | some m1 => rw [e] at h; exact ⟨m1, rfl, h⟩
  · cases h
theorem sp_ix {s x : Bool} {f fi : FE} {P : Pl} {v : VE} (h : SimP s f P) (hi : SimE true x fi v) : SimP false (fOp gIx f fi) (pIx P v) := by
  refine ⟨fun env en S As i p m he nd hP hl => ?_, fun z => (by cases z)⟩
  unfold pIx at hP
  split at hP
  · rename_i i0 p0 hP0
    split at hP
    · rename_i ms k e0 hl0 hv
      split at hP
      · rename_i j hj
        simp only [Option.some.injEq, Prod.mk.injEq] at hP
        obtain ⟨rfl, rfl⟩ := hP
        obtain ⟨J, d0, d, h1, h2, h3⟩ := h.run env en S As i0 p0 _ he nd hP0 hl0
        obtain ⟨m0, d0', A, g1, g2, g3, g4, g5⟩ := look_rep he hl0
        rw [h2] at g2; cases g2
        obtain ⟨e, A1, A', A2, k1, k2, k3, k4⟩ := at_rep g4 g5
        have := h3.det k1
        subst this
        obtain ⟨m1, q1, q2⟩ := look_app hl
        rw [hl0] at q1; cases q1
        obtain ⟨c, B1, B', B2, c1, c2, c3, c4⟩ := sub_rep k3 q2
        have hq := hi.run env en (S ++ J) As he.more nd
        rw [hv] at hq
        obtain ⟨kd, S', As', B, w1, w2, w3, w4, w5, w6⟩ := hq
        obtain ⟨_, J', rfl⟩ := w6 rfl
        have hk : kd = .int k := vwd_eq (re_val w3) (by simp)
        subst hk
        refine ⟨J ++ J', d0, c, ?_, h2, PathR.snoc h3 c1⟩
        obtain ⟨n, ds, rfl, e2, e3⟩ := c1
        have hn : (S ++ J ++ J')[n]? = some (.lst ds) := by rw [List.append_assoc, get_app (List.getElem?_eq_some_iff.mp e2).1]; exact e2
        have hlen : ms.length = ds.length := by
          unfold Rep at k3
          obtain ⟨n', ds', B0, z1, z2, z3, z4⟩ := k3
          cases z1
          rw [e2] at z2; cases z2
          exact z3.length
        rw [fOp_eq, h1, bind_ok, w1, bind_ok]
        have : gIx (.ref n) (.int k) (S ++ J ++ J') = some (c, S ++ J ++ J') := by
          unfold gIx
          simp only [sqOf, lsOf, hn]
          have : L2.atI ds k = some c := by unfold L2.atI; rw [← hlen, hj]; exact e3
          simp only [this]
        rw [this, ofO_some, List.append_assoc]
      · cases hP
    · cases hP
  · cases hP
end VF

namespace VF
open PySem L2 PF
variable [Tab]
/-! ### defs and calls -/
inductive Rn where
  | ok (m : M) (os : List (Option M)) | ex (C : Addr) (os : List (Option M)) | no
abbrev VN := List M → Rn
/-- behind the call the arguments at the places I are these -/
def OutR (S : So) (I : List Nat) (ds : List D) (os : List (Option M)) (Bs : List (List Nat)) : Prop := ∀ j ∈ I, ∀ m, os[j]? = some (some m) → ∃ d B, ds[j]? = some d ∧ Bs[j]? = some B ∧ Rep S m d B
structure NSim (q : Bool) (I : List Nat) (F : FN) (V : VN) : Prop where
  run : ∀ (ms : List M) (ds : List D) (S : So) (B : List Nat), Reps S ms ds B → Nd B → match V ms with
    | .ok m os => ∃ d S' Bs B', F ds S = .ok d S' ∧ OutR S' I ds os Bs ∧ Rep S' m d B' ∧ Nd (Bs.flatten ++ B') ∧ Fr S B S' (Bs.flatten ++ B') ∧ Mo q S S'
    | .ex C os => ∃ S' Bs, F ds S = .ex C S' ∧ OutR S' I ds os Bs ∧ Nd Bs.flatten ∧ Fr S B S' Bs.flatten ∧ Mo q S S'
    | .no => True
/-- an argument: a value, or a place that is lent -/
inductive Ar where
  | tm (m : M) | pl (i : Nat) (p : List Stp)
inductive Cr where
  | ok (m : M) (os : List (Option M)) (e : Env) | ex (C : Addr) (os : List (Option M)) (e : Env) | no
def Env.up (env : Env) (i : Nat) (x : Option M) : Env := Env.kill ⟨env.o.set i x, env.b⟩ i
def backO (os : List (Option M)) (j : Nat) (k : M → Cr) : Cr := match os[j]? with
  | some (some m) => k m
  | _ => .no
def callG (V : VN) : Nat → List Ar → List M → Env → Cr
  | _, [], acc, e => match V acc with
    | .ok m os => .ok m os e
    | .ex C os => .ex C os e
    | .no => .no
  | j, .tm m :: r, acc, e => callG V (j + 1) r (acc ++ [m]) e
  | j, .pl i p :: r, acc, e => match e.o[i]? with
    | some (some m0) => match m0.at p with
      | some m' => match callG V (j + 1) r (acc ++ [m']) (e.up i none) with
        | .ok m os e1 => backO os j fun m2 => .ok m os (e1.up i (some (m0.wrs p m2)))
        | .ex C os e1 => backO os j fun m2 => .ex C os (e1.up i (some (m0.wrs p m2)))
        | .no => .no
      | none => .no
    | _ => .no
def ArR (en : En) (S : So) : List Ar → List D → List Nat → Prop
  | [], ds, B => ds = [] ∧ B = []
  | .tm m :: r, ds, B => ∃ d t B1 B2, ds = d :: t ∧ Rep S m d B1 ∧ ArR en S r t B2 ∧ B = B1 ++ B2
  | .pl i p :: r, ds, B => ∃ d t d0, ds = d :: t ∧ en[i]? = some (some d0) ∧ PathR S p d0 d ∧ ArR en S r t B
theorem ArR.lt {en : En} {S : So} : ∀ {its : List Ar} {ds : List D} {B : List Nat}, ArR en S its ds B → ∀ n ∈ B, n < S.length
  | [], ds, B, h => by obtain ⟨_, rfl⟩ := h; intro n hn; cases hn
  | .tm m :: r, ds, B, h => by
    obtain ⟨d, t, B1, B2, rfl, h2, h3, rfl⟩ := h
    intro n hn
    rcases List.mem_append.mp hn with hn | hn
    · exact h2.lt n hn
    · exact ArR.lt h3 n hn
  | .pl i p :: r, ds, B, h => by
    obtain ⟨d, t, d0, rfl, h2, h3, h4⟩ := h
    exact ArR.lt h4
theorem ArR.frame {en : En} {S S' : So} {s : Bool} (k : s = true → ∃ J, S' = S ++ J) : ∀ {its : List Ar} {ds : List D} {B : List Nat}, ArR en S its ds B → (s = true ∨ ∀ i p, Ar.pl i p ∈ its → p = []) → (∀ n ∈ B, S'[n]? = S[n]?) → ArR en S' its ds B
  | [], ds, B, h, c, f => h
  | .tm m :: r, ds, B, h, c, f => by
    obtain ⟨d, t, B1, B2, rfl, h2, h3, rfl⟩ := h
    exact ⟨d, t, B1, B2, rfl, h2.frame (fun n hn => f n (by simp [hn])), ArR.frame k h3 (c.imp id fun q i p z => q i p (by simp [z])) (fun n hn => f n (by simp [hn])), rfl⟩
  | .pl i p :: r, ds, B, h, c, f => by
    obtain ⟨d, t, d0, rfl, h2, h3, h4⟩ := h
    refine ⟨d, t, d0, rfl, h2, ?_, ArR.frame k h4 (c.imp id fun q i p z => q i p (by simp [z])) f⟩
    rcases c with c | c
    · obtain ⟨J, rfl⟩ := k c; exact h3.more
    · rw [c i p (by simp)] at h3 ⊢; exact h3
theorem EnvR.up {S : So} {env : Env} {en : En} {As : List (List Nat)} {x : Option M} {e : Option D} {A : List Nat} (i : Nat) (h : EnvR S env en As) (q : en[i]? = some e) (k : SlotR S x e A) : EnvR S (env.up i x) en (As.set i A) := h.upd i q k
/-- what stands behind a call; j arguments are still held -/
def CallP (q : Bool) (I : List Nat) (F : FN) (en : En) (all : List D) (S : So) (A : List Nat) (j : Nat) (c : Cr) : Prop := match c with
  | .ok m os e' => ∃ (d : D) (S' : So) (As' Bs : List (List Nat)) (B' : List Nat), F all S = .ok d S' ∧ EnvR S' e' en As' ∧ (∀ k ∈ I, k < j → ∀ m, os[k]? = some (some m) → ∃ d B, all[k]? = some d ∧ Bs[k]? = some B ∧ Rep S' m d B) ∧ Rep S' m d B' ∧ Nd (As'.flatten ++ (Bs.flatten ++ B')) ∧ Fr S A S' (As'.flatten ++ (Bs.flatten ++ B')) ∧ Mo q S S'
  | .ex C os e' => ∃ (S' : So) (As' Bs : List (List Nat)), F all S = .ex C S' ∧ EnvR S' e' en As' ∧ (∀ k ∈ I, k < j → ∀ m, os[k]? = some (some m) → ∃ d B, all[k]? = some d ∧ Bs[k]? = some B ∧ Rep S' m d B) ∧ Nd (As'.flatten ++ Bs.flatten) ∧ Fr S A S' (As'.flatten ++ Bs.flatten) ∧ Mo q S S'
  | .no => True
theorem at_back {q : Bool} {I : List Nat} {F : FN} {en : En} {all : List D} {S : So} {A : List Nat} {j : Nat} {os : List (Option M)} {n : Nat} {k : M → Cr} (h : ∀ m, os[n]? = some (some m) → CallP q I F en all S A j (k m)) : CallP q I F en all S A j (backO os n k) := by
  unfold backO
  split
  · exact h _ (by assumption)
  · exact trivial
theorem callG_run {qq : Bool} {I : List Nat} {F : FN} {V : VN} {en : En} (hF : NSim qq I F V) : ∀ (its : List Ar) (acc : List M) (ds accd : List D) (S : So) (e : Env) (As : List (List Nat)) (B Bacc : List Nat), EnvR S e en As → ArR en S its ds B → Reps S acc accd Bacc → Nd (As.flatten ++ (Bacc ++ B)) →
    (∀ (k : Nat) i p, its[k]? = some (.pl i p) → acc.length + k ∈ I) → CallP qq I F en (accd ++ ds) S (As.flatten ++ (Bacc ++ B)) acc.length (callG V acc.length its acc e)
  | [], acc, ds, accd, S, e, As, B, Bacc, he, ha, hr, nd, hI => by
    obtain ⟨rfl, rfl⟩ := ha
    have q := hF.run acc accd S Bacc hr (nd.le fun a => by simp only [List.count_append]; omega)
    have hAs : ∀ n ∈ As.flatten, n < S.length ∧ n ∉ Bacc := fun n hn => ⟨he.lt n hn, fun z => (by rw [List.append_nil] at nd; exact nd.not hn z)⟩
    unfold callG
    rw [List.append_nil]
    cases hv : V acc with
    | no => exact trivial
    | ok m os =>
      rw [hv] at q
      obtain ⟨d, S', Bs, B', e1, e2, e3, e4, e5, emo⟩ := q
      refine ⟨d, S', As, Bs, B', e1, he.frame (fun n hn => e5.same n (hAs n hn).1 (hAs n hn).2), fun j hj _ => e2 j hj, e3, ?_, ⟨e5.len, fun n hl hn => e5.same n hl (fun z => hn (by simp [z])), fun n hn => ?_⟩, emo⟩
      · refine Nd.app (nd.le fun a => by simp only [List.count_append]; omega) e4 fun n hn z => ?_
        rcases e5.new n z with q | q
        · exact (hAs n hn).2 q
        · have := (hAs n hn).1; omega
      · rcases List.mem_append.mp hn with hn | hn
        · exact .inl (by simp only [List.mem_append]; exact .inl hn)
        · exact (e5.new n hn).elim (fun z => .inl (by simp [z])) .inr
    | ex C os =>
      rw [hv] at q
      obtain ⟨S', Bs, e1, e2, e4, e5, emo⟩ := q
      refine ⟨S', As, Bs, e1, he.frame (fun n hn => e5.same n (hAs n hn).1 (hAs n hn).2), fun j hj _ => e2 j hj, ?_, ⟨e5.len, fun n hl hn => e5.same n hl (fun z => hn (by simp [z])), fun n hn => ?_⟩, emo⟩
      · refine Nd.app (nd.le fun a => by simp only [List.count_append]; omega) e4 fun n hn z => ?_
        rcases e5.new n z with q | q
        · exact (hAs n hn).2 q
        · have := (hAs n hn).1; omega
      · rcases List.mem_append.mp hn with hn | hn
        · exact .inl (by simp only [List.mem_append]; exact .inl hn)
        · exact (e5.new n hn).elim (fun z => .inl (by simp [z])) .inr
  | .tm m :: r, acc, ds, accd, S, e, As, B, Bacc, he, ha, hr, nd, hI => by
    obtain ⟨d, t, B1, B2, rfl, h2, h3, rfl⟩ := ha
    have hl : (acc ++ [m]).length = acc.length + 1 := by simp
    have ih := callG_run hF r (acc ++ [m]) t (accd ++ [d]) S e As B2 (Bacc ++ B1) he h3 (by have := hr.append (Reps.cons h2 Reps.nil); simpa using this) (nd.le fun a => by simp only [List.count_append]; omega)
      (fun k i p hk => by have := hI (k + 1) i p (by simpa using hk); rw [hl]; rw [show acc.length + 1 + k = acc.length + (k + 1) by omega]; exact this)
    show CallP _ _ _ _ _ _ _ _ (callG V (acc.length + 1) r (acc ++ [m]) e)
    rw [hl] at ih
    have ea : accd ++ [d] ++ t = accd ++ d :: t := by simp
    rw [ea] at ih
    have eb : As.flatten ++ (Bacc ++ B1 ++ B2) = As.flatten ++ (Bacc ++ (B1 ++ B2)) := by simp
    rw [eb] at ih
    cases hc : callG V (acc.length + 1) r (acc ++ [m]) e with
    | no => exact trivial
    | ok m' os e' =>
      rw [hc] at ih
      obtain ⟨d', S', As', Bs, B', e1, e2, e3, e4, e5, e6, emo⟩ := ih
      exact ⟨d', S', As', Bs, B', e1, e2, fun j hj hlt => e3 j hj (by omega), e4, e5, e6, emo⟩
    | ex C os e' =>
      rw [hc] at ih
      obtain ⟨S', As', Bs, e1, e2, e3, e5, e6, emo⟩ := ih
      exact ⟨S', As', Bs, e1, e2, fun j hj hlt => e3 j hj (by omega), e5, e6, emo⟩
  | .pl i p :: r, acc, ds, accd, S, e, As, B, Bacc, he, ha, hr, nd, hI => by
    obtain ⟨d, t, d0, rfl, h2, h3, h4⟩ := ha
    unfold callG
    cases hm0 : e.o[i]? with
    | none => exact trivial
    | some x =>
    cases x with
    | none => exact trivial
    | some m0 =>
      dsimp only
      cases hm' : m0.at p with
      | none => exact trivial
      | some m' =>
        obtain ⟨d0', A, g1, g2, g3⟩ := at_var he hm0
        rw [h2] at g1; cases g1
        obtain ⟨e', A1, A', A2, k1, rfl, k3, k4⟩ := at_rep g3 hm'
        have := h3.det k1
        subst this
        have hl : (acc ++ [m']).length = acc.length + 1 := by simp
        have hcnt : ∀ a, (As.set i []).flatten.count a + (A1 ++ A' ++ A2).count a = As.flatten.count a := fun a => by
          have := count_set As i _ [] a g2
          simpa using this
        have nd0 : Nd ((A1 ++ A2) ++ ((As.set i []).flatten ++ ((Bacc ++ A') ++ B))) := nd.le fun a => by
          have := hcnt a
          simp only [List.count_append] at this ⊢
          omega
        have ih := callG_run hF r (acc ++ [m']) t (accd ++ [d]) S (e.up i none) (As.set i []) B (Bacc ++ A') (he.up i h2 (show SlotR S none (some d0) [] from rfl)) h4 (by have := hr.append (Reps.cons k3 Reps.nil); simpa using this) nd0.right
          (fun k i p hk => by have := hI (k + 1) i p (by simpa using hk); rw [hl]; rw [show acc.length + 1 + k = acc.length + (k + 1) by omega]; exact this)
        rw [hl] at ih
        have ea : accd ++ [d] ++ t = accd ++ d :: t := by simp
        rw [ea] at ih
        have hj : acc.length ∈ I := by simpa using hI 0 i p rfl
        have hdj : (accd ++ d :: t)[acc.length]? = some d := by rw [hr.length]; simp
        have hA12 : ∀ n ∈ A1 ++ A2, n < S.length := fun n hn => g3.lt n (by simp only [List.mem_append] at hn ⊢; rcases hn with hn | hn <;> simp [hn])
        have hsub : ∀ n ∈ (As.set i []).flatten ++ ((Bacc ++ A') ++ B), n ∈ As.flatten ++ (Bacc ++ B) := fun n hn => by
          have hA : ∀ n ∈ A', n ∈ As.flatten := fun n hn => List.mem_flatten.mpr ⟨_, List.mem_of_getElem? g2, by simp [hn]⟩
          simp only [List.mem_append] at hn ⊢
          rcases hn with hn | (hn | hn) | hn
          · exact .inl ((mem_set_flat hn).elim id (by intro z; cases z))
          · exact .inr (.inl hn)
          · exact .inl (hA n hn)
          · exact .inr (.inr hn)
        have hA12s : ∀ n ∈ A1 ++ A2, n ∈ As.flatten := fun n hn => List.mem_flatten.mpr ⟨_, List.mem_of_getElem? g2, by simp only [List.mem_append] at hn ⊢; rcases hn with hn | hn <;> simp [hn]⟩
        dsimp only
        cases hc : callG V (acc.length + 1) r (acc ++ [m']) (e.up i none) with
        | no => exact trivial
        | ok m os e1 =>
          rw [hc] at ih
          obtain ⟨dr, S', As', Bs, B', e1', e2, e3, e4, e5, e6, emo⟩ := ih
          refine at_back fun m2 hm2 => ?_
          obtain ⟨dd, Bj, w1, w2, w3⟩ := e3 acc.length hj (by omega) m2 hm2
          rw [hdj] at w1; cases w1
          have hfr : ∀ n ∈ A1 ++ A2, S'[n]? = S[n]? := fun n hn => e6.same n (hA12 n hn) (nd0.not hn)
          have hrep := k4 S' m2 Bj hfr w3
          have hBs : ∀ a, (Bs.set acc.length []).flatten.count a + Bj.count a = Bs.flatten.count a := fun a => by
            have := count_set Bs acc.length _ [] a w2
            simpa using this
          have hdis : Nd ((A1 ++ A2) ++ (As'.flatten ++ (Bs.flatten ++ B'))) := nd0.left.app e5 fun n hn z => by
            rcases e6.new n z with q | q
            · exact nd0.not hn q
            · have := hA12 n hn; omega
          refine ⟨dr, S', As'.set i (A1 ++ Bj ++ A2), Bs.set acc.length [], B', e1', e2.up i h2 ⟨d0, rfl, hrep⟩, fun j hj' hlt mm hmm => ?_, e4, hdis.le fun a => ?_, ⟨e6.len, fun n hl' hn => e6.same n hl' (fun z => hn (hsub n z)), fun n hn => ?_⟩, emo⟩
          · obtain ⟨dd, BB, z1, z2, z3⟩ := e3 j hj' (by omega) mm hmm
            exact ⟨dd, BB, z1, by rw [List.getElem?_set_ne (by omega)]; exact z2, z3⟩
          · have h1 := count_set_le As' i (A1 ++ Bj ++ A2) a
            have h2 := hBs a
            simp only [List.count_append] at h1 h2 ⊢
            omega
          · have hin : n ∈ (A1 ++ A2) ++ (As'.flatten ++ (Bs.flatten ++ B')) := by
              simp only [List.mem_append] at hn ⊢
              rcases hn with hn | hn | hn
              · rcases mem_set_flat hn with q | q
                · exact .inr (.inl q)
                · simp only [List.mem_append] at q
                  rcases q with (q | q) | q
                  · exact .inl (.inl q)
                  · exact .inr (.inr (.inl (List.mem_flatten.mpr ⟨Bj, List.mem_of_getElem? w2, q⟩)))
                  · exact .inl (.inr q)
              · exact .inr (.inr (.inl ((mem_set_flat hn).elim id (by intro z; cases z))))
              · exact .inr (.inr (.inr hn))
            rcases List.mem_append.mp hin with q | q
            · exact .inl (by simp only [List.mem_append]; exact .inl (hA12s n q))
            · exact (e6.new n q).elim (fun z => .inl (hsub n z)) .inr
        | ex C os e1 =>
          rw [hc] at ih
          obtain ⟨S', As', Bs, e1', e2, e3, e5, e6, emo⟩ := ih
          refine at_back fun m2 hm2 => ?_
          obtain ⟨dd, Bj, w1, w2, w3⟩ := e3 acc.length hj (by omega) m2 hm2
          rw [hdj] at w1; cases w1
          have hfr : ∀ n ∈ A1 ++ A2, S'[n]? = S[n]? := fun n hn => e6.same n (hA12 n hn) (nd0.not hn)
          have hrep := k4 S' m2 Bj hfr w3
          have hBs : ∀ a, (Bs.set acc.length []).flatten.count a + Bj.count a = Bs.flatten.count a := fun a => by
            have := count_set Bs acc.length _ [] a w2
            simpa using this
          have hdis : Nd ((A1 ++ A2) ++ (As'.flatten ++ Bs.flatten)) := nd0.left.app e5 fun n hn z => by
            rcases e6.new n z with q | q
            · exact nd0.not hn q
            · have := hA12 n hn; omega
          refine ⟨S', As'.set i (A1 ++ Bj ++ A2), Bs.set acc.length [], e1', e2.up i h2 ⟨d0, rfl, hrep⟩, fun j hj' hlt mm hmm => ?_, hdis.le fun a => ?_, ⟨e6.len, fun n hl' hn => e6.same n hl' (fun z => hn (hsub n z)), fun n hn => ?_⟩, emo⟩
          · obtain ⟨dd, BB, z1, z2, z3⟩ := e3 j hj' (by omega) mm hmm
            exact ⟨dd, BB, z1, by rw [List.getElem?_set_ne (by omega)]; exact z2, z3⟩
          · have h1 := count_set_le As' i (A1 ++ Bj ++ A2) a
            have h2 := hBs a
            simp only [List.count_append] at h1 h2 ⊢
            omega
          · have hin : n ∈ (A1 ++ A2) ++ (As'.flatten ++ Bs.flatten) := by
              simp only [List.mem_append] at hn ⊢
              rcases hn with hn | hn
              · rcases mem_set_flat hn with q | q
                · exact .inr (.inl q)
                · simp only [List.mem_append] at q
                  rcases q with (q | q) | q
                  · exact .inl (.inl q)
                  · exact .inr (.inr (List.mem_flatten.mpr ⟨Bj, List.mem_of_getElem? w2, q⟩))
                  · exact .inl (.inr q)
              · exact .inr (.inr ((mem_set_flat hn).elim id (by intro z; cases z)))
            rcases List.mem_append.mp hin with q | q
            · exact .inl (by simp only [List.mem_append]; exact .inl (hA12s n q))
            · exact (e6.new n q).elim (fun z => .inl (hsub n z)) .inr
end VF

namespace VF
open PySem L2 PF
variable [Tab]
theorem rep_val0 {S : So} {x d : D} {A : List Nat} (h : Rep S (.val x) d A) : d = x ∧ nr x = true ∧ A = [] := by unfold Rep at h; exact h
def Ar.isPl : Ar → Bool
  | .pl _ _ => true
  | _ => false
def ArK (ks : List Bool) (en : En) (S : So) (its : List Ar) (ds : List D) (B : List Nat) : Prop := ArR en S its ds B ∧ its.map Ar.isPl = ks
structure SimI (p : Bool) (ks : List Bool) (f : FA) (w : Env → Rv (List Ar)) : Prop where
  run : ∀ (env : Env) (en : En) (S : So) (As : List (List Nat)), EnvR S env en As → Nd As.flatten → SimAt (ArK ks en) p S env en As.flatten (f en S) (w env)
/-- held while the rest is reckoned -/
theorem SimAt.hold {α1 β1 α2 β2 : Type} {R1 : So → α1 → β1 → List Nat → Prop} {R2 : So → α2 → β2 → List Nat → Prop} {p : Bool} {r2 : Rs β2} {rv : Rv α2} (st : Stab R1 p) (il : InL R1)
    {a : α1} {b : β1} {env : Env} {en : En} {S : So} {As : List (List Nat)} {B : List Nat} (q : SimAt R2 p S env en As.flatten r2 rv) (r : R1 S a b B) (nd : Nd (As.flatten ++ B)) :
    SimAt (RPair R1 R2 a b) p S env en (As.flatten ++ B) r2 rv := by
  cases rv with
  | no => exact trivial
  | ex C env' =>
    obtain ⟨S', As', e1, e2, e3, e4, e5⟩ := q
    exact ⟨S', As', e1, e2, e3, ⟨e4.len, fun n hl hn => e4.same n hl (fun z => hn (by simp [z])), fun n hn => (e4.new n hn).elim (fun z => .inl (by simp [z])) .inr⟩, e5⟩
  | ok a2 env2 =>
    obtain ⟨b2, S2, As2, B2, g1, g2, g3, g4, g5, g6⟩ := q
    have hB : ∀ n ∈ B, n < S.length ∧ n ∉ As.flatten := fun n hn => ⟨il S a b B r n hn, fun z => nd.not z hn⟩
    refine ⟨b2, S2, As2, B ++ B2, g1, g2, ⟨B, B2, rfl, st S S2 a b B r (fun n hn => g5.same n (hB n hn).1 (hB n hn).2) (fun z => (g6 z).2), g3⟩, ?_, ⟨g5.len, fun n hl hn => g5.same n hl (fun z => hn (by simp [z])), fun n hn => ?_⟩, g6⟩
    · have : Nd ((As2.flatten ++ B2) ++ B) := g4.app nd.right fun n hn => by
        intro z
        rcases g5.new n hn with q | q
        · exact (hB n z).2 q
        · have := (hB n z).1; omega
      exact this.le fun a => by simp only [List.count_append]; omega
    · simp only [List.mem_append] at hn
      rcases hn with hn | hn | hn
      · exact (g5.new n (by simp [hn])).elim (fun z => .inl (by simp [z])) .inr
      · exact .inl (by simp [hn])
      · exact (g5.new n (by simp [hn])).elim (fun z => .inl (by simp [z])) .inr
def wNil : Env → Rv (List Ar) := fun env => .ok [] env
def wTm (v : VE) (w : Env → Rv (List Ar)) : Env → Rv (List Ar) := fun env => (v env).bind fun m e => (w e).bind fun its e2 => .ok (.tm m :: its) e2
def wPl (P : Pl) (w : Env → Rv (List Ar)) : Env → Rv (List Ar) := fun env => match P env with
  | some (i, p) => match env.look i p with
    | some _ => (w env).bind fun its e2 => .ok (.pl i p :: its) e2
    | none => .no
  | none => .no
theorem si_nil : SimI true [] fNil wNil := ⟨fun env en S As he nd => by
  have := ok_dropG (R := ArK [] en) (p := true) (B := []) (a := []) (b := []) (en := en) he (by simpa using nd) ⟨⟨rfl, rfl⟩, rfl⟩
  rw [List.append_nil] at this
  exact this⟩
theorem at_same {α β : Type} {R : So → α → β → List Nat → Prop} {p : Bool} {S : So} {env : Env} {en : En} {As : List (List Nat)} {B B' : List Nat} {a : α} {b : β} (he : EnvR S env en As) (nd : Nd (As.flatten ++ B)) (r : R S a b B') (hc : ∀ a, B'.count a ≤ B.count a) : SimAt R p S env en (As.flatten ++ B) (.ok b S) (.ok a env) := by
  have hm : ∀ n ∈ B', n ∈ B := fun n hn => List.count_pos_iff.mp (Nat.lt_of_lt_of_le (List.count_pos_iff.mpr hn) (hc n))
  have := SimAt.ok (R := R) (p := p) (J := []) (en := en) (B := B') he nd (fun n hn => by simp [hn]) (by rw [List.append_nil]; exact r) (nd.le fun a => by have := hc a; simp only [List.count_append]; omega) (fun n hn => .inl (by simp [hm n hn]))
  rw [List.append_nil] at this
  exact this
theorem si_tm {pa pb : Bool} {ks : List Bool} {fa : FE} {va : VE} {gs : FA} {w : Env → Rv (List Ar)} (ha : SimE pa true fa va) (hb : SimI pb ks gs w) : SimI (pa && pb) (false :: ks) (fCons fa gs) (wTm va w) := ⟨fun env en S As he nd => by
  have q := ha.run env en S As he nd
  have := SimAt.map (p2 := pb) (R2 := ArK (false :: ks) en) q (k := fun d S1 => (gs en S1).bind fun ds S2 => .ok (d :: ds) S2) (kv := fun m e => (w e).bind fun its e2 => .ok (.tm m :: its) e2) fun m d env1 S1 As1 B1 he1 r1 nd1 => by
    have q2 := SimAt.map (p2 := true) (R2 := ArK (false :: ks) en) (SimAt.hold (stab_rep pb) inl_re (hb.run env1 en S1 As1 he1 nd1.left) r1 nd1) (k := fun ds S2 => .ok (d :: ds) S2) (kv := fun its e2 => .ok (.tm m :: its) e2) fun its ds env2 S2 As2 B2 he2 r2 nd2 => by
      obtain ⟨B3, B4, rfl, r3, r4, r5⟩ := r2
      exact at_same he2 nd2 ⟨⟨d, ds, B3, B4, rfl, r3, r4, rfl⟩, by simp [r5, Ar.isPl]⟩ fun a => Nat.le_refl _
    rw [Bool.and_true] at q2
    exact q2
  exact this⟩
/-- the place of an argument -/
def PlR (s : Bool) (en : En) (i : Nat) (p : List Stp) (S : So) (_ : Unit) (d : D) (B : List Nat) : Prop := B = [] ∧ (s = true → p = []) ∧ ∃ d0, en[i]? = some (some d0) ∧ PathR S p d0 d
theorem stab_pl {s pb : Bool} {en : En} {i : Nat} {p : List Stp} (h : (s || pb) = true) : Stab (PlR s en i p) pb := fun S S' a d B r f k => by
  obtain ⟨rfl, hs, d0, h1, h2⟩ := r
  refine ⟨rfl, hs, d0, h1, ?_⟩
  cases s with
  | true => rw [hs rfl] at h2 ⊢; exact h2
  | false =>
    simp at h
    obtain ⟨J, rfl⟩ := k h
    exact h2.more
theorem inl_pl {s : Bool} {en : En} {i : Nat} {p : List Stp} : InL (PlR s en i p) := fun S a d B r n hn => by rw [r.1] at hn; cases hn
theorem si_pl {s pb : Bool} {ks : List Bool} {fo : FE} {P : Pl} {gs : FA} {w : Env → Rv (List Ar)} (hp : SimP s fo P) (hb : SimI pb ks gs w) (hx : (s || pb) = true := by rfl) : SimI pb (true :: ks) (fCons fo gs) (wPl P w) := ⟨fun env en S As he nd => by
  unfold wPl
  cases hP : P env with
  | none => exact trivial
  | some q =>
    obtain ⟨i, p⟩ := q
    dsimp only
    cases hl : env.look i p with
    | none => exact trivial
    | some m =>
      obtain ⟨J, d0, d, h1, h2, h3⟩ := hp.run env en S As i p m he nd hP hl
      dsimp only
      have q0 := hb.run env en (S ++ J) As he.more nd
      have r0 : PlR s en i p (S ++ J) () d [] := ⟨rfl, fun z => hp.nm z env i p hP, d0, h2, h3.more⟩
      have q1 := SimAt.hold (stab_pl hx) inl_pl q0 r0 (by simpa using nd)
      have q2 := SimAt.map (p2 := true) (R2 := ArK (true :: ks) en) q1 (k := fun ds S2 => .ok (d :: ds) S2) (kv := fun its e2 => .ok (.pl i p :: its) e2) fun its ds env2 S2 As2 B2 he2 r2 nd2 => by
        obtain ⟨B3, B4, rfl, ⟨rfl, _, e0, r3, r6⟩, r4, r5⟩ := r2
        exact at_same he2 nd2 ⟨⟨d, ds, e0, rfl, r3, r6, r4⟩, by simp [r5, Ar.isPl]⟩ fun a => by simp
      rw [Bool.and_true, List.append_nil] at q2
      have hf : fCons fo gs en S = (gs en (S ++ J)).bind fun ds S2 => .ok (d :: ds) S2 := by simp [fCons, h1]
      rw [hf]
      cases hw : (w env).bind fun its e2 => Rv.ok (Ar.pl i p :: its) e2 with
      | no => exact trivial
      | ex C e =>
        rw [hw] at q2
        obtain ⟨S', As', e1, e2, e3, e4, e5⟩ := q2
        refine ⟨S', As', e1, e2, e3, Fr.more.trans e4, fun z => ?_⟩
        obtain ⟨rfl, J', rfl⟩ := e5 z
        exact ⟨rfl, J ++ J', by simp⟩
      | ok a e =>
        rw [hw] at q2
        obtain ⟨b, S', As', B, e1, e2, e3, e4, e5, e6⟩ := q2
        refine ⟨b, S', As', B, e1, e2, e3, e4, Fr.more.trans e5, fun z => ?_⟩
        obtain ⟨rfl, J', rfl⟩ := e6 z
        exact ⟨rfl, J ++ J', by simp⟩⟩
def crV : Cr → Rv M
  | .ok m _ e => .ok m e
  | .ex C _ e => .ex C e
  | .no => .no
def vCall (V : VN) (w : Env → Rv (List Ar)) : VE := fun env => (w env).bind fun its e => crV (callG V 0 its [] e)
/-- the call itself -/
theorem call_at {qq : Bool} {I : List Nat} {F : FN} {V : VN} (hF : NSim qq I F V) {ks : List Bool} (hk : ∀ k, ks[k]? = some true → k ∈ I) {its : List Ar} {ds : List D} {env : Env} {en : En} {S : So} {As : List (List Nat)} {B : List Nat} (he : EnvR S env en As) (r : ArK ks en S its ds B) (nd : Nd (As.flatten ++ B)) :
    SimAt (RE true) false S env en (As.flatten ++ B) (F ds S) (crV (callG V 0 its [] env)) := by
  have q := callG_run hF its [] ds [] S env As B [] he r.1 Reps.nil (by simpa using nd) (fun k i p h => by
    simp only [List.length_nil, Nat.zero_add]
    refine hk k ?_
    rw [← r.2, List.getElem?_map, h]; rfl)
  simp only [List.length_nil, List.nil_append] at q
  cases hc : callG V 0 its [] env with
  | no => exact trivial
  | ok m os e =>
    rw [hc] at q
    obtain ⟨d, S', As', Bs, B', e1, e2, e3, e4, e5, e6, _⟩ := q
    exact ⟨d, S', As', B', e1, e2, e4, e5.le fun a => by simp only [List.count_append]; omega, e6.sub fun n hn => by simp only [List.mem_append] at hn ⊢; rcases hn with hn | hn <;> simp [hn], fun z => by cases z⟩
  | ex C os e =>
    rw [hc] at q
    obtain ⟨S', As', Bs, e1, e2, e3, e5, e6, _⟩ := q
    exact ⟨S', As', e1, e2, e5.left, e6.sub fun n hn => by simp [hn], fun z => by cases z⟩
theorem SimAt.false {α β : Type} {R : So → α → β → List Nat → Prop} {p : Bool} {S : So} {env : Env} {en : En} {A : List Nat} {r : Rs β} {rv : Rv α} (h : SimAt R p S env en A r rv) : SimAt R false S env en A r rv := h.imp fun z => by cases z
theorem NSim.len {qq : Bool} {I : List Nat} {F : FN} {V : VN} {n : Nat} (h : NSim qq I F V) (hn : ∀ ms, ms.length ≠ n → V ms = .no) : NSim qq I (F.len n) V := ⟨fun ms ds S B r nd => by
  by_cases c : ms.length = n
  · have := h.run ms ds S B r nd
    unfold FN.len
    rw [if_pos (by rw [← r.length]; exact c)]
    exact this
  · rw [hn ms c]; exact trivial⟩
theorem se_call {qq : Bool} {I : List Nat} {F : FN} {V : VN} {n : Nat} {p : Bool} {ks : List Bool} {fa : FA} {w : Env → Rv (List Ar)} (hF : NSim qq I F V) (hn : ∀ ms, ms.length ≠ n → V ms = .no) (hw : SimI p ks fa w) (hk : ∀ k, ks[k]? = some true → k ∈ I) : SimE false true (fCall (F.len n) fa) (vCall V w) := ⟨fun env en S As he nd => by
  have := SimAt.map (p2 := false) (R2 := RE true) (hw.run env en S As he nd) (k := fun ds S1 => F.len n ds S1) (kv := fun its e => crV (callG V 0 its [] e)) fun its ds env1 S1 As1 B1 he1 r1 nd1 => call_at (hF.len hn) hk he1 r1 nd1
  rw [Bool.and_false] at this
  exact this⟩
/-- a call with plain data alone: nothing that stands is changed -/
def rnV (r : Rn) (e : Env) : Rv M := match r with
  | .ok m _ => .ok m e
  | .ex C _ => .ex C e
  | .no => .no
def vCallV (V : VN) (g : VA) : VE := fun env => (g env).bind fun ms e => match valsM ms with
  | some _ => rnV (V ms) e
  | none => .no
theorem fr_nil {S S' : So} {A : List Nat} (h : Fr S [] S' A) : ∃ J, S' = S ++ J := by
  refine ⟨S'.drop S.length, List.ext_getElem? fun n => ?_⟩
  by_cases c : n < S.length
  · rw [List.getElem?_append_left c]; exact h.same n c (by simp)
  · rw [List.getElem?_append_right (by omega), List.getElem?_drop, show S.length + (n - S.length) = n by omega]
theorem se_callV {qq : Bool} {I : List Nat} {F : FN} {V : VN} {n : Nat} {p : Bool} {fa : FA} {w : VA} (hF : NSim qq I F V) (hn : ∀ ms, ms.length ≠ n → V ms = .no) (hw : SimA p fa w) : SimE p true (fCall (F.len n) fa) (vCallV V w) := by
  have := SimR.bind (R2 := RE true) (p2 := true) (k := fun ds en S1 => F.len n ds S1) (kv := fun ms e => match valsM ms with
    | some _ => rnV (V ms) e
    | none => .no) hw fun ms ds env en S As B he r nd => by
    refine at_vals fun es hm => ?_
    have r' := r
    rw [valsM_eq hm] at r'
    obtain ⟨e1, h4, e2⟩ := Reps.vals_of r'
    subst e2
    have q := (hF.len hn).run ms ds S [] r Nd.nil
    have hnew : ∀ {S' : So} {A : List Nat}, Fr S [] S' A → ∀ n ∈ A, S.length ≤ n := fun h n hn => (h.new n hn).elim (fun z => by cases z) id
    cases hv : V ms with
    | no => exact trivial
    | ok m os =>
      rw [hv] at q
      obtain ⟨d, S', Bs, B', g1, g2, g3, g4, g5, _⟩ := q
      obtain ⟨J, rfl⟩ := fr_nil g5
      rw [g1]
      refine SimAt.ok (B := B') he nd (fun n hn => by simp [hn]) g3 ?_ (fun n hn => .inr (hnew g5 n (by simp [hn])))
      exact nd.left.app g4.right fun n hn z => by
        have := hnew g5 n (by simp [z])
        have := he.lt n hn
        omega
    | ex C os =>
      rw [hv] at q
      obtain ⟨S', Bs, g1, g2, g4, g5, _⟩ := q
      obtain ⟨J, rfl⟩ := fr_nil g5
      rw [g1]
      exact ⟨S ++ J, As, rfl, he.more, nd.left, ⟨by simp, fun n hl _ => get_app hl, fun n hn => .inl (by simp [hn])⟩, fun _ => ⟨rfl, J, rfl⟩⟩
  rw [Bool.and_true] at this
  exact this
/-- a call of a def that changes nothing: what is lent stays as it is -/
def vCallR (V : VN) (w : Env → Rv (List Ar)) : VE := fun env => (w env).bind fun its e => match callG V 0 its [] e with
  | .ok (.val d) _ _ => .ok (.val d) e
  | .ex C _ _ => .ex C e
  | _ => .no
theorem se_callR {I : List Nat} {F : FN} {V : VN} {n : Nat} {p : Bool} {ks : List Bool} {fa : FA} {w : Env → Rv (List Ar)} (hF : NSim true I F V) (hn : ∀ ms, ms.length ≠ n → V ms = .no) (hw : SimI p ks fa w) (hk : ∀ k, ks[k]? = some true → k ∈ I) : SimE p true (fCall (F.len n) fa) (vCallR V w) := ⟨fun env en S As he nd => by
  have := SimAt.map (p2 := true) (R2 := RE true) (hw.run env en S As he nd) (k := fun ds S1 => F.len n ds S1) (kv := fun its e => match callG V 0 its [] e with
    | .ok (.val d) _ _ => .ok (.val d) e
    | .ex C _ _ => .ex C e
    | _ => .no) fun its ds env1 S1 As1 B1 he1 r1 nd1 => by
    have q := callG_run (hF.len hn) its [] ds [] S1 env1 As1 B1 [] he1 r1.1 Reps.nil (by simpa using nd1) (fun k i p h => by
      simp only [List.length_nil, Nat.zero_add]
      refine hk k ?_
      rw [← r1.2, List.getElem?_map, h]; rfl)
    simp only [List.length_nil, List.nil_append] at q
    cases hc : callG V 0 its [] env1 with
    | no => exact trivial
    | ok m os e =>
      rw [hc] at q
      obtain ⟨d, S', As', Bs, B', e1, e2, e3, e4, e5, e6, emo⟩ := q
      obtain ⟨J, rfl⟩ := emo rfl
      cases m with
      | val x =>
        obtain ⟨rfl, h2, rfl⟩ := rep_val0 e4
        rw [e1]
        exact SimAt.ok (B := []) he1 nd1 (fun n hn => by simp [hn]) (show Rep _ _ _ _ from Rep.val h2) (by simpa using nd1.left) (by simp)
      | _ => exact trivial
    | ex C os e =>
      rw [hc] at q
      obtain ⟨S', As', Bs, e1, e2, e3, e5, e6, emo⟩ := q
      obtain ⟨J, rfl⟩ := emo rfl
      rw [e1]
      exact ⟨S1 ++ J, As1, rfl, he1.more, nd1.left, ⟨by simp, fun n hl _ => get_app hl, fun n hn => .inl (by simp [hn])⟩, fun _ => ⟨rfl, J, rfl⟩⟩
  rw [Bool.and_true] at this
  exact this⟩
/-! ### methods of lists that change them -/
def mutF (g : GM) : FN := fun ds S => match ds with
  | d :: es => ofO (g d es S)
  | [] => .no
def tyM : M → String
  | .lst _ => "list"
  | .dic _ _ => "dict"
  | _ => ""
def vMut (T : String) (V : VN) (P : Pl) (wa : VA) : VE := fun env => match P env with
  | some (i, p) => match env.look i p with
    | some m => if tyM m = T then (wa env).bind fun ms e => crV (callG V 0 (.pl i p :: ms.map Ar.tm) [] e) else .no
    | none => .no
  | none => .no
theorem ar_tms {en : En} {S : So} : ∀ {ms : List M} {ds : List D} {B : List Nat}, Reps S ms ds B → ArR en S (ms.map Ar.tm) ds B
  | [], ds, B, h => by unfold Reps at h; exact h
  | m :: ms, ds, B, h => by
    unfold Reps at h
    obtain ⟨d, r, B1, B2, rfl, h2, h3, rfl⟩ := h
    exact ⟨d, r, B1, B2, rfl, h2, ar_tms h3, rfl⟩
theorem isTy_m {S : So} {m : M} {d : D} {A : List Nat} {T : String} (h : Rep S m d A) (hT : tyM m = T) (hne : T ≠ "") : isTy S T d = true := by
  subst hT
  cases m with
  | val x => exact absurd rfl hne
  | ins C ns ms => exact absurd rfl hne
  | lst ms =>
    unfold Rep at h
    obtain ⟨n, ds, B, rfl, h2, _⟩ := h
    simp [isTy, tyM, h2]
  | dic ks ms =>
    unfold Rep at h
    obtain ⟨n, ds, B, rfl, h2, _⟩ := h
    simp [isTy, tyM, h2]
theorem se_mut {T : String} {g : GM} {V : VN} {s pb qq : Bool} {fo : FE} {P : Pl} {fa : FA} {wa : VA} (hF : NSim qq [0] (mutF g) V) (hp : SimP s fo P) (ha : SimA pb fa wa) (hx : (s || pb) = true := by rfl) (hne : T ≠ "" := by decide) : SimE false true (fBM T g fo fa) (vMut T V P wa) := ⟨fun env en S As he nd => by
  unfold vMut
  cases hP : P env with
  | none => exact trivial
  | some q =>
    obtain ⟨i, p⟩ := q
    dsimp only
    cases hl : env.look i p with
    | none => exact trivial
    | some m =>
      dsimp only
      refine at_if fun hT => ?_
      obtain ⟨J, d0, d, h1, h2, h3⟩ := hp.run env en S As i p m he nd hP hl
      obtain ⟨m0, d0', A, g1, g2, g3, g4, g5⟩ := look_rep he hl
      rw [h2] at g2; cases g2
      obtain ⟨e, A1, A', A2, k1, k2, k3, k4⟩ := at_rep g4 g5
      have := h3.det k1
      subst this
      have hty := isTy_m (k3.more (J := J)) hT hne
      have q0 := ha.run env en (S ++ J) As he.more nd
      have r0 : PlR s en i p (S ++ J) () d [] := ⟨rfl, fun z => hp.nm z env i p hP, d0, h2, h3.more⟩
      have q1 := SimAt.hold (stab_pl hx) inl_pl q0 r0 (by simpa using nd)
      have q2 := SimAt.map (p2 := false) (R2 := RE true) q1 (k := fun ds S2 => ofO (g d ds S2)) (kv := fun ms e => crV (callG V 0 (.pl i p :: ms.map Ar.tm) [] e)) fun ms ds env2 S2 As2 B2 he2 r2 nd2 => by
        obtain ⟨B3, B4, rfl, ⟨rfl, _, e0, r3, r6⟩, r4⟩ := r2
        exact call_at (I := [0]) (ks := true :: (ms.map fun _ => false)) hF (fun k hk => by
          cases k with
          | zero => simp
          | succ k => simp at hk) (ds := d :: ds) he2 ⟨⟨d, ds, e0, rfl, r3, r6, ar_tms r4⟩, by simp [Ar.isPl]⟩ nd2
      have hf : fBM T g fo fa en S = (fa en (S ++ J)).bind fun ds S2 => ofO (g d ds S2) := by simp [fBM, h1, hty]
      rw [hf]
      rw [Bool.and_false, List.append_nil] at q2
      cases hw : (wa env).bind fun ms e => crV (callG V 0 (.pl i p :: ms.map Ar.tm) [] e) with
      | no => exact trivial
      | ex C e =>
        rw [hw] at q2
        obtain ⟨S', As', e1, e2, e3, e4, e5⟩ := q2
        exact ⟨S', As', e1, e2, e3, Fr.more.trans e4, fun z => by cases z⟩
      | ok a e =>
        rw [hw] at q2
        obtain ⟨b, S', As', B, e1, e2, e3, e4, e5, e6⟩ := q2
        exact ⟨b, S', As', B, e1, e2, e3, e4, Fr.more.trans e5, fun z => by cases z⟩⟩
end VF

namespace VF
open PySem L2 PF
variable [Tab]
section muts
variable {S : So}
theorem reps1 {m : M} {ds : List D} {B : List Nat} (h : Reps S [m] ds B) : ∃ d, ds = [d] ∧ Rep S m d B := by
  unfold Reps at h
  obtain ⟨d, r, B1, B2, rfl, h2, h3, rfl⟩ := h
  unfold Reps at h3
  obtain ⟨rfl, rfl⟩ := h3
  exact ⟨d, rfl, by simpa using h2⟩
theorem reps2 {m m' : M} {ds : List D} {B : List Nat} (h : Reps S [m, m'] ds B) : ∃ d d' B1 B2, ds = [d, d'] ∧ B = B1 ++ B2 ∧ Rep S m d B1 ∧ Rep S m' d' B2 := by
  unfold Reps at h
  obtain ⟨d, r, B1, B2, rfl, h2, h3, rfl⟩ := h
  obtain ⟨d', rfl, h4⟩ := reps1 h3
  exact ⟨d, d', B1, B2, rfl, rfl, h2, h4⟩
theorem reps3 {m m' m'' : M} {ds : List D} {B : List Nat} (h : Reps S [m, m', m''] ds B) : ∃ d d' d'' B1 B2 B3, ds = [d, d', d''] ∧ B = B1 ++ (B2 ++ B3) ∧ Rep S m d B1 ∧ Rep S m' d' B2 ∧ Rep S m'' d'' B3 := by
  unfold Reps at h
  obtain ⟨d, r, B1, B2, rfl, h2, h3, rfl⟩ := h
  obtain ⟨d', d'', B3, B4, rfl, rfl, h4, h5⟩ := reps2 h3
  exact ⟨d, d', d'', B1, B3, B4, rfl, rfl, h2, h4, h5⟩
theorem set_frame {n : Nat} {o : O} {B : List Nat} (h : n ∉ B) : ∀ k ∈ B, (S.set n o)[k]? = S[k]? := fun k hk => List.getElem?_set_ne (fun q => h (by rw [q]; exact hk))
theorem mem_nd {n : Nat} {B : List Nat} (h : Nd (n :: B)) : n ∉ B := fun q => by
  have := h n
  rw [List.count_cons_self] at this
  have := List.count_pos_iff.mpr q
  omega
/-- a list changes in place -/
theorem mut_out {F : FN} {n : Nat} {xs : List M} {ds es : List D} {B' Br B : List Nat} {r : M} {rd : D} (hn : n < S.length) (h : Reps S xs ds B') (hr : Rep S r rd Br) (hB : n ∈ B) (nd : Nd B) (hc : ∀ a, (n :: (B' ++ Br)).count a ≤ B.count a)
    (hF : F (.ref n :: es) S = .ok rd (S.set n (.lst ds))) : ∃ d S' Bs B', F (.ref n :: es) S = .ok d S' ∧ OutR S' [0] (.ref n :: es) [some (.lst xs)] Bs ∧ Rep S' r d B' ∧ Nd (Bs.flatten ++ B') ∧ Fr S B S' (Bs.flatten ++ B') ∧ Mo false S S' := by
  have nd' : Nd (n :: (B' ++ Br)) := nd.le hc
  have hni := mem_nd nd'
  refine ⟨rd, S.set n (.lst ds), [n :: B'], Br, hF, fun j hj m hm => ?_, hr.frame (set_frame (fun q => hni (by simp [q]))), ?_, ⟨by simp, fun k hl hk => List.getElem?_set_ne (fun q => hk (by rw [← q]; exact hB)), fun k hk => .inl ?_⟩, Mo.no⟩
  · simp at hj; subst hj
    simp at hm; subst hm
    refine ⟨.ref n, n :: B', rfl, rfl, ?_⟩
    unfold Rep
    exact ⟨n, ds, B', rfl, by rw [List.getElem?_set_self hn], h.frame (set_frame (fun q => hni (by simp [q]))), rfl⟩
  · simpa using nd'
  · have hk' : k ∈ n :: (B' ++ Br) := by simpa using hk
    exact List.count_pos_iff.mp (Nat.lt_of_lt_of_le (List.count_pos_iff.mpr hk') (hc k))
theorem rep_lst {xs : List M} {d : D} {A : List Nat} (h : Rep S (.lst xs) d A) : ∃ n ds B, d = .ref n ∧ S[n]? = some (.lst ds) ∧ Reps S xs ds B ∧ A = n :: B := by unfold Rep at h; exact h
theorem rep_val {x d : D} {A : List Nat} (h : Rep S (.val x) d A) : d = x ∧ nr x = true ∧ A = [] := by unfold Rep at h; exact h
theorem atL_ref {n : Nat} {ds : List D} (h : S[n]? = some (.lst ds)) : atL S (.ref n) = some (n, ds) := by simp [atL, h]
end muts
def V_append : VN := fun ms => match ms with
  | [.lst xs, y] => if xs.length < 1000000 then .ok (.val .non) [some (.lst (xs ++ [y]))] else .no
  | _ => .no
theorem n_append : NSim false [0] (mutF gAppend) V_append := ⟨fun ms ds S B r nd => by
  unfold V_append
  split
  · rename_i h
    split at h
    · rename_i xs y
      split at h
      · rename_i hl
        cases h
        obtain ⟨d, d', B1, B2, rfl, rfl, h1, h2⟩ := reps2 r
        obtain ⟨n, es, B3, rfl, h3, h4, rfl⟩ := rep_lst h1
        refine mut_out (List.getElem?_eq_some_iff.mp h3).1 (h4.append (Reps.cons h2 Reps.nil)) (Rep.val rfl) (by simp) nd (fun a => by simp [List.count_cons, List.count_append]) ?_
        simp only [mutF, gAppend, atL_ref h3]
        rw [if_pos (by rw [← h4.length]; exact lim_lt hl)]
        rfl
      · cases h
    · cases h
  · rename_i h
    split at h
    · split at h <;> cases h
    · cases h
  · exact trivial⟩
def V_pop : VN := fun ms => match ms with
  | [.lst xs] => match xs[xs.length - 1]? with
    | some y => .ok y [some (.lst xs.dropLast)]
    | none => .no
  | _ => .no
theorem Reps.take {S : So} : ∀ {ms : List M} {ds : List D} {A : List Nat} (k : Nat), Reps S ms ds A → ∃ A1 A2, A = A1 ++ A2 ∧ Reps S (ms.take k) (ds.take k) A1 ∧ Reps S (ms.drop k) (ds.drop k) A2
  | ms, ds, A, 0, h => ⟨[], A, rfl, by simpa using Reps.nil, by simpa using h⟩
  | [], ds, A, k + 1, h => by
    unfold Reps at h
    obtain ⟨rfl, rfl⟩ := h
    exact ⟨[], [], rfl, Reps.nil, Reps.nil⟩
  | m :: ms, ds, A, k + 1, h => by
    unfold Reps at h
    obtain ⟨d, r, B1, B2, rfl, h2, h3, rfl⟩ := h
    obtain ⟨A1, A2, rfl, h4, h5⟩ := Reps.take k h3
    exact ⟨B1 ++ A1, A2, by simp, by simpa using Reps.cons h2 h4, by simpa using h5⟩
/-- one taken out -/
theorem Reps.erase {S : So} {ms : List M} {ds : List D} {A : List Nat} {j : Nat} {m : M} (h : Reps S ms ds A) (e : ms[j]? = some m) : ∃ d A1 A' A2, ds[j]? = some d ∧ A = A1 ++ A' ++ A2 ∧ Rep S m d A' ∧ Reps S (ms.eraseIdx j) (ds.eraseIdx j) (A1 ++ A2) := by
  obtain ⟨A1, A2, rfl, h1, h2⟩ := h.take j
  have hj := (List.getElem?_eq_some_iff.mp e).1
  have hjd : j < ds.length := by rw [← h.length]; exact hj
  rw [List.drop_eq_getElem_cons hj, List.drop_eq_getElem_cons hjd] at h2
  unfold Reps at h2
  obtain ⟨d, r, B1, B2, q, h3, h4, rfl⟩ := h2
  simp only [List.cons.injEq] at q
  obtain ⟨rfl, rfl⟩ := q
  rw [List.getElem?_eq_getElem hj] at e
  cases e
  refine ⟨ds[j], A1, B1, B2, List.getElem?_eq_getElem hjd, by simp, h3, ?_⟩
  rw [List.eraseIdx_eq_take_drop_succ, List.eraseIdx_eq_take_drop_succ]
  exact h1.append h4
theorem n_pop : NSim false [0] (mutF gPop) V_pop := ⟨fun ms ds S B r nd => by
  unfold V_pop
  split
  · rename_i h
    split at h
    · rename_i xs
      split at h
      · rename_i y hy
        cases h
        obtain ⟨d, rfl, h1⟩ := reps1 r
        obtain ⟨n, es, B3, rfl, h3, h4, rfl⟩ := rep_lst h1
        obtain ⟨dy, A1, A', A2, g1, rfl, g3, g4⟩ := h4.erase hy
        have hl := h4.length
        refine mut_out (ds := es.dropLast) (List.getElem?_eq_some_iff.mp h3).1 (xs := xs.dropLast) (B' := A1 ++ A2) ?_ g3 (by simp) nd (fun a => by simp only [List.count_cons, List.count_append]; omega) ?_
        · have e1 : xs.eraseIdx (xs.length - 1) = xs.dropLast := List.eraseIdx_length_sub_one
          have e2 : es.eraseIdx (es.length - 1) = es.dropLast := List.eraseIdx_length_sub_one
          rw [hl, e2] at g4
          rw [← hl, e1] at g4
          exact g4
        · rw [hl] at g1
          simp only [mutF, gPop, atL_ref h3, g1]
          rfl
      · cases h
    · cases h
  · rename_i h
    split at h
    · split at h <;> cases h
    · cases h
  · exact trivial⟩
def V_popAt : VN := fun ms => match ms with
  | [.lst xs, .val (.int i)] => if -1000000000 ≤ i ∧ i ≤ 1000000000 then (match ixN xs.length i with
    | some j => match xs[j]? with
      | some y => .ok y [some (.lst (xs.eraseIdx j))]
      | none => .no
    | none => .no) else .no
  | _ => .no
theorem n_popAt : NSim false [0] (mutF gPopAt) V_popAt := ⟨fun ms ds S B r nd => by
  unfold V_popAt
  split
  · rename_i h
    split at h
    · rename_i xs i
      split at h
      · rename_i hi
        split at h
        · rename_i j hj
          split at h
          · rename_i y hy
            cases h
            obtain ⟨d, d', B1, B2, rfl, rfl, h1, h2⟩ := reps2 r
            obtain ⟨rfl, _, rfl⟩ := rep_val h2
            obtain ⟨n, es, B3, rfl, h3, h4, rfl⟩ := rep_lst h1
            obtain ⟨dy, A1, A', A2, g1, rfl, g3, g4⟩ := h4.erase hy
            have hl := h4.length
            refine mut_out (List.getElem?_eq_some_iff.mp h3).1 g4 g3 (by simp) nd (fun a => by simp only [List.count_cons, List.count_append, List.count_nil]; omega) ?_
            simp only [mutF, gPopAt, atL_ref h3]
            rw [if_pos ⟨by omega, by omega⟩, ← hl, hj]
            simp only [g1]
            rfl
          · cases h
        · cases h
      · cases h
    · cases h
  · rename_i h
    split at h
    · split at h
      · split at h
        · split at h <;> cases h
        · cases h
      · cases h
    · cases h
  · exact trivial⟩
def V_extend : VN := fun ms => match ms with
  | [.lst xs, .val (.lst ds)] => if xs.length + ds.length ≤ 1000000 then .ok (.val .non) [some (.lst (xs ++ ds.map M.val))] else .no
  | [.lst xs, .lst ys] => if xs.length + ys.length ≤ 1000000 then .ok (.val .non) [some (.lst (xs ++ ys))] else .no
  | _ => .no
theorem n_extend : NSim false [0] (mutF gExtend) V_extend := ⟨fun ms ds S B r nd => by
  unfold V_extend
  split
  · rename_i h
    split at h
    · rename_i xs zs
      split at h
      · rename_i hl
        cases h
        obtain ⟨d, d', B1, B2, rfl, rfl, h1, h2⟩ := reps2 r
        obtain ⟨rfl, hz, rfl⟩ := rep_val h2
        obtain ⟨n, es, B3, rfl, h3, h4, rfl⟩ := rep_lst h1
        refine mut_out (List.getElem?_eq_some_iff.mp h3).1 (h4.append (Reps.vals (by simpa [nr] using hz))) (Rep.val rfl) (by simp) nd (fun a => by simp [List.count_cons, List.count_append]) ?_
        simp only [mutF, gExtend, atL_ref h3, lsOf]
        rw [if_pos (by rw [← h4.length]; exact lim_le hl)]
        rfl
      · cases h
    · rename_i xs ys
      split at h
      · rename_i hl
        cases h
        obtain ⟨d, d', B1, B2, rfl, rfl, h1, h2⟩ := reps2 r
        obtain ⟨n, es, B3, rfl, h3, h4, rfl⟩ := rep_lst h1
        obtain ⟨n', es', B3', rfl, h3', h4', rfl⟩ := rep_lst h2
        refine mut_out (List.getElem?_eq_some_iff.mp h3).1 (h4.append h4') (Rep.val rfl) (by simp) nd (fun a => by simp only [List.count_cons, List.count_append, List.count_nil]; omega) ?_
        simp only [mutF, gExtend, atL_ref h3, lsOf, h3']
        rw [if_pos (by rw [← h4.length, ← h4'.length]; exact lim_le hl)]
        rfl
      · cases h
    · cases h
  · rename_i h
    split at h
    · split at h <;> cases h
    · split at h <;> cases h
    · cases h
  · exact trivial⟩
end VF

namespace VF
open PySem L2 PF
variable [Tab]
theorem slot_some {S : So} {m : M} {d : D} {A : List Nat} (h : Rep S m d A) : SlotR S (some m) (some d) A := ⟨d, rfl, h⟩
/-! ### statements -/
/-- the names I hold what they held -/
def Kp (I : List Nat) (en en' : En) : Prop := ∀ i ∈ I, en'[i]? = en[i]?
theorem Kp.refl {I : List Nat} {en : En} : Kp I en en := fun _ _ => rfl
theorem Kp.trans {I : List Nat} {a b c : En} (h : Kp I a b) (k : Kp I b c) : Kp I a c := fun i hi => (k i hi).trans (h i hi)
def StP (q : Bool) (I : List Nat) (S : So) (en : En) (A : List Nat) (r : Fl) (rv : Vl) : Prop := match rv with
  | .nx e' => ∃ en' S' As', r = .nx en' S' ∧ EnvR S' e' en' As' ∧ Nd As'.flatten ∧ Fr S A S' As'.flatten ∧ Kp I en en' ∧ Mo q S S'
  | .bk e' => ∃ en' S' As', r = .bk en' S' ∧ EnvR S' e' en' As' ∧ Nd As'.flatten ∧ Fr S A S' As'.flatten ∧ Kp I en en' ∧ Mo q S S'
  | .ct e' => ∃ en' S' As', r = .ct en' S' ∧ EnvR S' e' en' As' ∧ Nd As'.flatten ∧ Fr S A S' As'.flatten ∧ Kp I en en' ∧ Mo q S S'
  | .ex C e' => ∃ en' S' As', r = .ex C en' S' ∧ EnvR S' e' en' As' ∧ Nd As'.flatten ∧ Fr S A S' As'.flatten ∧ Kp I en en' ∧ Mo q S S'
  | .rt m e' => ∃ d en' S' As' B, r = .rt d S' ∧ EnvR S' e' en' As' ∧ Rep S' m d B ∧ Nd (As'.flatten ++ B) ∧ Fr S A S' (As'.flatten ++ B) ∧ Kp I en en' ∧ Mo q S S'
  | .no => True
structure SimS (q : Bool) (I : List Nat) (f : FS) (v : VS) : Prop where
  run : ∀ (env : Env) (en : En) (S : So) (As : List (List Nat)), EnvR S env en As → Nd As.flatten → StP q I S en As.flatten (f en S) (v env)
theorem StP.later {q q1 q2 : Bool} {I : List Nat} {S S1 : So} {en en1 : En} {A A1 : List Nat} {r : Fl} {rv : Vl} (h : StP q2 I S1 en1 A1 r rv) (f : Fr S A S1 A1) (k : Kp I en en1) (m : Mo q1 S S1) (h1 : q = true → q1 = true) (h2 : q = true → q2 = true) : StP q I S en A r rv := by
  cases rv with
  | no => exact trivial
  | rt v e => obtain ⟨d, en', S', As', B, g1, g2, g3, g4, g5, g6, g7⟩ := h; exact ⟨d, en', S', As', B, g1, g2, g3, g4, f.trans g5, k.trans g6, m.trans g7 h1 h2⟩
  | nx e => obtain ⟨en', S', As', g1, g2, g3, g4, g5, g6⟩ := h; exact ⟨en', S', As', g1, g2, g3, f.trans g4, k.trans g5, m.trans g6 h1 h2⟩
  | bk e => obtain ⟨en', S', As', g1, g2, g3, g4, g5, g6⟩ := h; exact ⟨en', S', As', g1, g2, g3, f.trans g4, k.trans g5, m.trans g6 h1 h2⟩
  | ct e => obtain ⟨en', S', As', g1, g2, g3, g4, g5, g6⟩ := h; exact ⟨en', S', As', g1, g2, g3, f.trans g4, k.trans g5, m.trans g6 h1 h2⟩
  | ex C e => obtain ⟨en', S', As', g1, g2, g3, g4, g5, g6⟩ := h; exact ⟨en', S', As', g1, g2, g3, f.trans g4, k.trans g5, m.trans g6 h1 h2⟩
theorem StP.imp {q q2 : Bool} {I : List Nat} {S : So} {en : En} {A : List Nat} {r : Fl} {rv : Vl} (h : StP q2 I S en A r rv) (k : q = true → q2 = true) : StP q I S en A r rv := h.later (q1 := true) Fr.refl Kp.refl Mo.refl (fun _ => rfl) k
def vthen {α : Type} (r : Rv α) (k : α → Env → Vl) : Vl := match r with
  | .ok a e => k a e
  | .ex C e => .ex C e
  | .no => .no
theorem SimAt.then {α β : Type} {R : So → α → β → List Nat → Prop} {p q : Bool} {I : List Nat} {S : So} {env : Env} {en : En} {A : List Nat} {r : Rs β} {rv : Rv α} (h : SimAt R p S env en A r rv) {k : β → So → Fl} {kv : α → Env → Vl}
    (h2 : ∀ (a : α) (b : β) (env1 : Env) (S1 : So) (As : List (List Nat)) (B : List Nat), EnvR S1 env1 en As → R S1 a b B → Nd (As.flatten ++ B) → StP q I S1 en (As.flatten ++ B) (k b S1) (kv a env1)) : StP (p && q) I S en A (fthen en r k) (vthen rv kv) := by
  cases rv with
  | no => exact trivial
  | ex C e =>
    obtain ⟨S', As', e1, e2, e3, e4, e5⟩ := h
    rw [e1]
    exact ⟨en, S', As', rfl, e2, e3, e4, Kp.refl, fun z => (e5 (by simp at z; exact z.1)).2⟩
  | ok a e =>
    obtain ⟨b, S', As', B, e1, e2, e3, e4, e5, e6⟩ := h
    rw [e1]
    exact StP.later (q1 := p) (h2 a b e S' As' B e2 e3 e4) e5 Kp.refl (fun z => (e6 z).2) (fun z => by simp at z; exact z.1) (fun z => by simp at z; exact z.2)
theorem StP.wide {q : Bool} {I : List Nat} {S : So} {en : En} {A A' : List Nat} {r : Fl} {rv : Vl} (h : StP q I S en A r rv) (k : ∀ n ∈ A, n ∈ A') : StP q I S en A' r rv := h.later (q1 := true) ⟨Nat.le_refl _, fun _ _ _ => rfl, fun n hn => .inl (k n hn)⟩ Kp.refl Mo.refl (fun _ => rfl) id
section stmts
variable {I : List Nat} {p x pc pa q q1 q2 : Bool} {f g : FS} {v w : VS} {fe : FE} {ve : VE} {ft : FT} {vt : VT}
def vNext : VS := fun env => .nx env
theorem ss_next : SimS true I fNext vNext := ⟨fun env en S As he nd => ⟨en, S, As, rfl, he, nd, Fr.refl, Kp.refl, Mo.refl⟩⟩
def vSeq (f g : VS) : VS := fun env => match f env with
  | .nx e => g e
  | o => o
theorem ss_seq (h : SimS q1 I f v) (k : SimS q2 I g w) : SimS (q1 && q2) I (fSeq f g) (vSeq v w) := ⟨fun env en S As he nd => by
  have q := (h.run env en S As he nd)
  have z1 : ∀ {b c : Bool}, (b && c) = true → b = true := fun z => by simp at z; exact z.1
  have z2 : ∀ {b c : Bool}, (b && c) = true → c = true := fun z => by simp at z; exact z.2
  unfold vSeq fSeq
  cases e : v env with
  | nx e1 =>
    rw [e] at q
    obtain ⟨en', S', As', h1, h2, h3, h4, h5, h6⟩ := q
    rw [h1]
    exact StP.later (k.run e1 en' S' As' h2 h3) h4 h5 h6 z1 z2
  | rt m e1 =>
    rw [e] at q
    have q' : StP (q1 && q2) _ _ _ _ _ (Vl.rt m e1) := StP.imp q z1
    obtain ⟨d, en', S', As', B, h1, _⟩ := q
    rw [h1] at q' ⊢
    exact q'
  | bk e1 => rw [e] at q; have q' : StP (q1 && q2) _ _ _ _ _ (Vl.bk e1) := StP.imp q z1; obtain ⟨en', S', As', h1, _⟩ := q; rw [h1] at q' ⊢; exact q'
  | ct e1 => rw [e] at q; have q' : StP (q1 && q2) _ _ _ _ _ (Vl.ct e1) := StP.imp q z1; obtain ⟨en', S', As', h1, _⟩ := q; rw [h1] at q' ⊢; exact q'
  | ex C e1 => rw [e] at q; have q' : StP (q1 && q2) _ _ _ _ _ (Vl.ex C e1) := StP.imp q z1; obtain ⟨en', S', As', h1, _⟩ := q; rw [h1] at q' ⊢; exact q'
  | no => exact trivial⟩
def vExpr (f : VE) : VS := fun env => vthen (f env) fun _ e => .nx e
theorem ss_expr (h : SimE p x fe ve) : SimS p I (fExpr fe) (vExpr ve) := ⟨fun env en S As he nd => by
  have := SimAt.then (q := true) (I := I) (k := fun _ S1 => Fl.nx en S1) (kv := fun _ e => Vl.nx e) (h.run env en S As he nd) fun a b env1 S1 As1 B he1 r1 nd1 => ⟨en, S1, As1, rfl, he1, nd1.left, Fr.refl.sub (fun n hn => by simp [hn]), Kp.refl, Mo.refl⟩
  rw [Bool.and_true] at this
  exact this⟩
def vRet (f : VE) : VS := fun env => vthen (f env) fun m e => .rt m e
theorem ss_ret (h : SimE p true fe ve) : SimS p I (fRet fe) (vRet ve) := ⟨fun env en S As he nd => by
  have := SimAt.then (q := true) (I := I) (k := fun d S1 => Fl.rt d S1) (kv := fun m e => Vl.rt m e) (h.run env en S As he nd) fun a b env1 S1 As1 B he1 r1 nd1 => ⟨b, en, S1, As1, B, rfl, he1, r1, nd1, Fr.refl, Kp.refl, Mo.refl⟩
  rw [Bool.and_true] at this
  exact this⟩
def vRetN : VS := fun env => .rt (.val .non) env
theorem ss_retN : SimS true I fRetN vRetN := ⟨fun env en S As he nd => ⟨.non, en, S, As, [], rfl, he, Rep.val rfl, by simpa using nd, by simpa using Fr.refl, Kp.refl, Mo.refl⟩⟩
def vBrk : VS := fun env => .bk env
def vCnt : VS := fun env => .ct env
theorem ss_brk : SimS true I fBrk vBrk := ⟨fun env en S As he nd => ⟨en, S, As, rfl, he, nd, Fr.refl, Kp.refl, Mo.refl⟩⟩
theorem ss_cnt : SimS true I fCnt vCnt := ⟨fun env en S As he nd => ⟨en, S, As, rfl, he, nd, Fr.refl, Kp.refl, Mo.refl⟩⟩
def vRaise (C : Addr) : VS := fun env => .ex C env
theorem ss_raise {C : Addr} : SimS true I (fRaise C) (vRaise C) := ⟨fun env en S As he nd => ⟨en, S, As, rfl, he, nd, Fr.refl, Kp.refl, Mo.refl⟩⟩
def vNever : VS := fun _ => .no
theorem ss_never : SimS true I f vNever := ⟨fun env en S As he nd => trivial⟩
def vIte (c : VT) (f g : VS) : VS := fun env => vthen (c env) fun k e => if k = true then f e else g e
theorem ss_ite (hc : SimT pc ft vt) (h : SimS q1 I f v) (k : SimS q2 I g w) : SimS (pc && (q1 && q2)) I (fIte ft f g) (vIte vt v w) := ⟨fun env en S As he nd => SimAt.then (hc.run env en S As he nd) fun a b env1 S1 As1 B he1 r1 nd1 => by
  obtain ⟨rfl, rfl⟩ := r1
  cases b with
  | true => exact ((h.run env1 en S1 As1 he1 nd1.left).imp fun z => by simp at z; exact z.1).wide fun n hn => by simp [hn]
  | false => exact ((k.run env1 en S1 As1 he1 nd1.left).imp fun z => by simp at z; exact z.2).wide fun n hn => by simp [hn]⟩
/-! targets -/
abbrev VG := M → Env → Option Env
def GP (q : Bool) (I : List Nat) (S : So) (en : En) (A : List Nat) (r : Option (En × So)) (rv : Option Env) : Prop := match rv with
  | some e' => ∃ en' S' As', r = some (en', S') ∧ EnvR S' e' en' As' ∧ Nd As'.flatten ∧ Fr S A S' As'.flatten ∧ Kp I en en' ∧ Mo q S S'
  | none => True
structure SimG (q : Bool) (I : List Nat) (g : FG) (w : VG) : Prop where
  run : ∀ (m : M) (d : D) (B : List Nat) (env : Env) (en : En) (S : So) (As : List (List Nat)), EnvR S env en As → Rep S m d B → Nd (As.flatten ++ B) → GP q I S en (As.flatten ++ B) (g d en S) (w m env)
def tName (i : Nat) : VG := fun m env => some (env.put i (some m))
theorem sg_name {i : Nat} (h : i ∉ I) : SimG true I (gtName i) (tName i) := ⟨fun m d B env en S As he r nd => by
  refine ⟨en.set i (some d), S, As.set i B, rfl, he.put i ⟨d, rfl, r⟩, nd.le fun a => ?_, ⟨Nat.le_refl _, fun _ _ _ => rfl, fun n hn => .inl ?_⟩, fun j hj => ?_, Mo.refl⟩
  · have := count_set_le As i B a
    rw [List.count_append]; exact this
  · simp only [List.mem_append]
    exact mem_set_flat hn
  · rw [List.getElem?_set_ne (fun q => h (by rw [q]; exact hj))]⟩
def vlG (r : Option Env) : Vl := match r with
  | some e => .nx e
  | none => .no
def vAsg (f : VE) (g : VG) : VS := fun env => vthen (f env) fun m e => vlG (g m e)
theorem gp_st {S : So} {en : En} {A : List Nat} {r : Option (En × So)} {rv : Option Env} (h : GP q I S en A r rv) : StP q I S en A (flG r) (vlG rv) := by
  cases rv with
  | none => exact trivial
  | some e =>
    obtain ⟨en', S', As', e1, e2⟩ := h
    rw [e1]
    exact ⟨en', S', As', rfl, e2⟩
theorem ss_asg {gt : FG} {wt : VG} (h : SimE p true fe ve) (k : SimG q I gt wt) : SimS (p && q) I (fAsg fe gt) (vAsg ve wt) := ⟨fun env en S As he nd => SimAt.then (h.run env en S As he nd) fun a b env1 S1 As1 B he1 r1 nd1 => gp_st (k.run a b B env1 en S1 As1 he1 r1 nd1)⟩
abbrev VGs := List D → Env → Option Env
structure SimGs (q : Bool) (I : List Nat) (g : FGs) (w : VGs) : Prop where
  run : ∀ (ds : List D) (env : Env) (en : En) (S : So) (As : List (List Nat)), EnvR S env en As → nrs ds = true → Nd As.flatten → GP q I S en As.flatten (g ds en S) (w ds env)
def tNil : VGs := fun ds env => match ds with
  | [] => some env
  | _ => none
def tCons (g : VG) (h : VGs) : VGs := fun ds env => match ds with
  | d :: r => match g (.val d) env with
    | some e => h r e
    | none => none
  | [] => none
theorem sgs_nil : SimGs true I gtNil tNil := ⟨fun ds env en S As he hn nd => by
  cases ds with
  | nil => exact ⟨en, S, As, rfl, he, nd, Fr.refl, Kp.refl, Mo.refl⟩
  | cons d r => exact trivial⟩
theorem sgs_cons {gt : FG} {wt : VG} {gs : FGs} {ws : VGs} (h : SimG q1 I gt wt) (k : SimGs q2 I gs ws) : SimGs (q1 && q2) I (gtCons gt gs) (tCons wt ws) := ⟨fun ds env en S As he hn nd => by
  cases ds with
  | nil => exact trivial
  | cons d r =>
    simp only [nrs, Bool.and_eq_true] at hn
    have q := h.run (.val d) d [] env en S As he (Rep.val hn.1) (by simpa using nd)
    unfold tCons gtCons
    dsimp only
    cases e : wt (.val d) env with
    | none => exact trivial
    | some e1 =>
      rw [e] at q
      obtain ⟨en', S', As', h1, h2, h3, h4, h5, h6⟩ := q
      rw [h1]
      rw [List.append_nil] at h4
      have q2 := k.run r e1 en' S' As' h2 hn.2 h3
      dsimp only
      cases e' : ws r e1 with
      | none => exact trivial
      | some e2 =>
        rw [e'] at q2
        obtain ⟨en2, S2, As2, g1, g2, g3, g4, g5, g6⟩ := q2
        exact ⟨en2, S2, As2, g1, g2, g3, h4.trans g4, h5.trans g5, h6.trans g6 (fun z => by simp at z; exact z.1) (fun z => by simp at z; exact z.2)⟩⟩
def tTup (n : Nat) (g : VGs) : VG := fun m env => match m with
  | .val (.tup ds) => if ds.length = n then g ds env else none
  | _ => none
theorem sg_tup {n : Nat} {gs : FGs} {ws : VGs} (k : SimGs q I gs ws) : SimG q I (gtTup n gs) (tTup n ws) := ⟨fun m d B env en S As he r nd => by
  unfold tTup
  cases m with
  | val y =>
    cases y with
    | tup ds =>
      dsimp only
      by_cases hl : ds.length = n
      · rw [if_pos hl]
        obtain ⟨rfl, h2, rfl⟩ := rep_val r
        have q := k.run ds env en S As he (by simpa [nr] using h2) nd.left
        simp only [gtTup_eq, if_pos hl, List.append_nil]
        exact q
      · rw [if_neg hl]; exact trivial
    | _ => exact trivial
  | _ => exact trivial⟩
def tPair (i j : Nat) : VG := fun m env => match m with
  | .val (.tup [a, b]) => some ((env.put i (some (.val a))).put j (some (.val b)))
  | _ => none
theorem sg_pair {i j : Nat} (h : i ∉ I) (k : j ∉ I) : SimG true I (gtPair i j) (tPair i j) := ⟨fun m d B env en S As he r nd => by
  have q := (sg_tup (n := 2) (sgs_cons (sg_name h) (sgs_cons (sg_name k) sgs_nil))).run m d B env en S As he r nd
  unfold tPair
  cases m with
  | val y =>
    cases y with
    | tup ds =>
      match ds with
      | [a, b] =>
        obtain ⟨rfl, h2, rfl⟩ := rep_val r
        exact q
      | [] => exact trivial
      | [_] => exact trivial
      | _ :: _ :: _ :: _ => exact trivial
    | _ => exact trivial
  | _ => exact trivial⟩
/-- a, b = x, y -/
def vPar (i j : Nat) (fa : VA) : VS := fun env => vthen (fa env) fun ms e => match ms with
  | [a, b] => .nx ((e.put i (some a)).put j (some b))
  | _ => .no
theorem ss_par {i j : Nat} {fa : FA} {va : VA} (hi : i ∉ I) (hj : j ∉ I) (h : SimA pa fa va) : SimS (pa && true) I (fPar i j fa) (vPar i j va) := ⟨fun env en S As he nd => SimAt.then (k := fun ds S1 => match ds with
    | [d1, d2] => .nx ((en.set i (some d1)).set j (some d2)) S1
    | _ => .no) (h.run env en S As he nd) fun ms ds env1 S1 As1 B he1 r1 nd1 => by
  match ms with
  | [a, b] =>
    obtain ⟨d, d', B1, B2, rfl, rfl, h1, h2⟩ := reps2 r1
    have q := (sg_name hi).run a d B1 env1 en S1 As1 he1 h1 (nd1.le fun a => by simp only [List.count_append]; omega)
    refine ⟨_, S1, (As1.set i B1).set j B2, rfl, (he1.put i (slot_some h1)).put j (slot_some h2), nd1.le fun a => ?_, ⟨Nat.le_refl _, fun _ _ _ => rfl, fun n hn => .inl ?_⟩, fun l hl => ?_, Mo.refl⟩
    · have h1 := count_set_le As1 i B1 a
      have h2 := count_set_le (As1.set i B1) j B2 a
      simp only [List.count_append]; omega
    · simp only [List.mem_append]
      rcases mem_set_flat hn with q | q
      · exact (mem_set_flat q).elim .inl (fun z => .inr (.inl z))
      · exact .inr (.inr q)
    · rw [List.getElem?_set_ne (fun q => hj (by rw [q]; exact hl)), List.getElem?_set_ne (fun q => hi (by rw [q]; exact hl))]
  | [] => exact trivial
  | [_] => exact trivial
  | _ :: _ :: _ :: _ => exact trivial⟩
def vPar3 (i j l : Nat) (fa : VA) : VS := fun env => vthen (fa env) fun ms e => match ms with
  | [a, b, c] => .nx (((e.put i (some a)).put j (some b)).put l (some c))
  | _ => .no
theorem ss_par3 {i j l : Nat} {fa : FA} {va : VA} (hi : i ∉ I) (hj : j ∉ I) (hl' : l ∉ I) (h : SimA pa fa va) : SimS (pa && true) I (fPar3 i j l fa) (vPar3 i j l va) := ⟨fun env en S As he nd => SimAt.then (k := fun ds S1 => match ds with
    | [d1, d2, d3] => .nx (((en.set i (some d1)).set j (some d2)).set l (some d3)) S1
    | _ => .no) (h.run env en S As he nd) fun ms ds env1 S1 As1 B he1 r1 nd1 => by
  match ms with
  | [a, b, c] =>
    obtain ⟨d, d', d'', B1, B2, B3, rfl, rfl, h1, h2, h3⟩ := reps3 r1
    refine ⟨_, S1, ((As1.set i B1).set j B2).set l B3, rfl, ((he1.put i (slot_some h1)).put j (slot_some h2)).put l (slot_some h3), nd1.le fun a => ?_, ⟨Nat.le_refl _, fun _ _ _ => rfl, fun n hn => .inl ?_⟩, fun k hk => ?_, Mo.refl⟩
    · have h1 := count_set_le As1 i B1 a
      have h2 := count_set_le (As1.set i B1) j B2 a
      have h3 := count_set_le ((As1.set i B1).set j B2) l B3 a
      simp only [List.count_append]; omega
    · simp only [List.mem_append]
      rcases mem_set_flat hn with q | q
      · rcases mem_set_flat q with q | q
        · exact (mem_set_flat q).elim .inl (fun z => .inr (.inl z))
        · exact .inr (.inr (.inl q))
      · exact .inr (.inr (.inr q))
    · rw [List.getElem?_set_ne (fun q => hl' (by rw [q]; exact hk)), List.getElem?_set_ne (fun q => hj (by rw [q]; exact hk)), List.getElem?_set_ne (fun q => hi (by rw [q]; exact hk))]
  | [] => exact trivial
  | [_] => exact trivial
  | [_, _] => exact trivial
  | _ :: _ :: _ :: _ :: _ => exact trivial⟩
/-- x op= e, plain data -/
def vAug (i : Nat) (v : VE) (g : G2) : VS := fun env => match env.o[i]? with
  | some (some (.val x)) => vthen (v env) fun y e => match liftG g (.val x) y with
    | some m => .nx (e.put i (some m))
    | none => .no
  | _ => .no
theorem ss_aug {i : Nat} {g : G2} (hi : i ∉ I) (hg : OpV g) (h : SimE p x fe ve) : SimS (p && true) I (fAug i fe g) (vAug i ve g) := ⟨fun env en S As he nd => by
  unfold vAug
  split
  · rename_i y hy
    obtain ⟨d, A, h1, h2, h3⟩ := at_var he hy
    obtain ⟨rfl, hn, rfl⟩ := rep_val h3
    simp only [fAug, h1]
    refine SimAt.then (h.run env en S As he nd) fun m e env1 S1 As1 B he1 r1 nd1 => ?_
    cases hm : liftG g (.val d) m with
    | none => exact trivial
    | some z =>
      obtain ⟨r, rfl, e1, e2⟩ := lift_run (a := .val d) (d := d) hg (show VwD S1 d d from .inl ⟨rfl, hn⟩) r1.vw hm
      rw [e1]
      have q := (sg_name hi).run (.val r) r [] env1 en S1 As1 he1 (Rep.val e2) (by simpa using nd1.left)
      obtain ⟨en', S', As', q1, q2, q3, q4, q5, q6⟩ := q
      simp only [gtName_eq, Option.some.injEq, Prod.mk.injEq] at q1
      obtain ⟨rfl, rfl⟩ := q1
      exact ⟨_, S1, As', rfl, q2, q3, ⟨Nat.le_refl _, fun _ _ _ => rfl, fun n hn => .inl (by
        rcases q4.new n hn with z | z
        · simp only [List.append_nil] at z; simp [z]
        · have := q2.lt n hn; omega)⟩, q5, Mo.refl⟩
  · exact trivial⟩
end stmts
end VF

namespace VF
open PySem L2 PF
variable [Tab]
section loops
variable {I : List Nat} {p x pc q q1 q2 : Bool} {f g : FS} {v w : VS} {ft : FT} {vt : VT}
/-- how a turn ends -/
def turnV (r : Vl) (k : Env → Vl) : Vl := match r with
  | .nx e => k e
  | .ct e => k e
  | .bk e => .nx e
  | .rt m e => .rt m e
  | .ex C e => .ex C e
  | .no => .no
def turnF (r : Fl) (k : En → So → Fl) : Fl := match r with
  | .nx e S => k e S
  | .ct e S => k e S
  | .bk e S => .nx e S
  | .rt d S => .rt d S
  | .ex C e S => .ex C e S
  | .no => .no
theorem st_turn {S : So} {en : En} {A : List Nat} {r : Fl} {rv : Vl} {k : En → So → Fl} {kv : Env → Vl} (h : StP q1 I S en A r rv)
    (h2 : ∀ env1 en1 S1 As1, EnvR S1 env1 en1 As1 → Nd As1.flatten → Kp I en en1 → Mo q1 S S1 → StP q2 I S1 en1 As1.flatten (k en1 S1) (kv env1)) (z1 : q = true → q1 = true) (z2 : q = true → q2 = true) : StP q I S en A (turnF r k) (turnV rv kv) := by
  cases rv with
  | no => exact trivial
  | nx e =>
    obtain ⟨en', S', As', g1, g2, g3, g4, g5, g6⟩ := h
    rw [g1]
    exact StP.later (h2 e en' S' As' g2 g3 g5 g6) g4 g5 g6 z1 z2
  | ct e =>
    obtain ⟨en', S', As', g1, g2, g3, g4, g5, g6⟩ := h
    rw [g1]
    exact StP.later (h2 e en' S' As' g2 g3 g5 g6) g4 g5 g6 z1 z2
  | bk e =>
    obtain ⟨en', S', As', g1, g2, g3, g4, g5, g6⟩ := h
    rw [g1]
    exact ⟨en', S', As', rfl, g2, g3, g4, g5, fun z => g6 (z1 z)⟩
  | ex C e =>
    obtain ⟨en', S', As', g1, g2, g3, g4, g5, g6⟩ := h
    rw [g1]
    exact ⟨en', S', As', rfl, g2, g3, g4, g5, fun z => g6 (z1 z)⟩
  | rt m e =>
    obtain ⟨d, en', S', As', B, g1, g2, g3, g4, g5, g6, g7⟩ := h
    rw [g1]
    exact ⟨d, en', S', As', B, rfl, g2, g3, g4, g5, g6, fun z => g7 (z1 z)⟩
def vWhile (c : VT) (b : VS) : Nat → VS
  | 0 => fun _ => .no
  | n + 1 => fun env => vthen (c env) fun k e => if k = true then turnV (b e) (vWhile c b n) else .nx e
theorem fWhile_turn (c : FT) (b : FS) (n : Nat) (en : En) (S : So) : fWhile c b (n + 1) en S = fthen en (c en S) fun k S1 => if k = true then turnF (b en S1) (fWhile c b n) else .nx en S1 := by
  show (fthen en (c en S) fun k S1 => if k = true then (match b en S1 with
    | .nx e2 S2 => fWhile c b n e2 S2
    | .ct e2 S2 => fWhile c b n e2 S2
    | .bk e2 S2 => .nx e2 S2
    | .rt d S2 => .rt d S2
    | .ex C e2 S2 => .ex C e2 S2
    | .no => .no) else .nx en S1) = _
  congr 1
theorem ss_while (n : Nat) (hc : SimT pc ft vt) (hb : SimS q I f v) : SimS (pc && q) I (fWhile ft f n) (vWhile vt v n) := by
  induction n with
  | zero => exact ⟨fun env en S As he nd => trivial⟩
  | succ n ih =>
    refine ⟨fun env en S As he nd => ?_⟩
    rw [fWhile_turn]
    have := SimAt.then (q := pc && q) (I := I) (k := fun k S1 => if k = true then turnF (f en S1) (fWhile ft f n) else .nx en S1) (kv := fun k e => if k = true then turnV (v e) (vWhile vt v n) else .nx e) (hc.run env en S As he nd) fun a b env1 S1 As1 B he1 r1 nd1 => by
      obtain ⟨rfl, rfl⟩ := r1
      cases b with
      | false => exact ⟨en, S1, As1, rfl, he1, nd1.left, Fr.refl.sub (fun n hn => by simp [hn]), Kp.refl, Mo.refl⟩
      | true =>
        exact (st_turn (q2 := pc && q) (hb.run env1 en S1 As1 he1 nd1.left) (fun env2 en2 S2 As2 he2 nd2 _ _ => ih.run env2 en2 S2 As2 he2 nd2) (fun z => by simp at z; exact z.2) id).wide fun n hn => by simp [hn]
    exact this.imp fun z => by simp at z ⊢; exact z
/-! ### what is walked -/
def RIt (x : Bool) (S : So) (ds : List D) (t : ItD) (B : List Nat) : Prop := B = [] ∧ nrs ds = true ∧ (t = .items ds ∨ (x = false ∧ ds.length < 100000 ∧ ∃ n, t = .live n ∧ S[n]? = some (.lst ds)))
abbrev VI := Env → Rv (List D)
abbrev SimF (p x : Bool) (f : FI) (v : VI) : Prop := SimR (RIt x) p f v
/-- the items of plain data -/
def itemsD : D → Option (List D)
  | .tup ds => some ds
  | .lst ds => some ds
  | .str s => some (s.cps.toList.map fun c => .str ⟨#[c]⟩)
  | _ => none
def itemsM : M → Option (List D)
  | .val d => itemsD d
  | _ => none
def ofI2 (o : Option (List D)) (e : Env) : Rv (List D) := match o with
  | some ds => .ok ds e
  | none => .no
def viSeq (v : VE) : VI := fun env => (v env).bind fun m e => ofI2 (itemsM m) e
theorem sf_seq {fe : FE} {ve : VE} (h : SimE p true fe ve) : SimF p true (fiSeq fe) (viSeq ve) := by
  have := SimR.bind (R2 := RIt true) (p2 := true) (k := fun d en S => ofI (iterOf S d) S) (kv := fun m e => ofI2 (itemsM m) e) h fun m d env en S As B he r nd => by
    cases m with
    | val y =>
      obtain ⟨rfl, h2, rfl⟩ := rep_val (show Rep S _ _ _ from r)
      cases d with
      | tup ds => exact ok_dropG he nd ⟨rfl, by simpa [nr] using h2, .inl rfl⟩
      | lst ds => exact ok_dropG he nd ⟨rfl, by simpa [nr] using h2, .inl rfl⟩
      | str s => exact ok_dropG he nd ⟨rfl, nrs_all (fun d hd => by obtain ⟨c, _, rfl⟩ := List.mem_map.mp hd; rfl), .inl rfl⟩
      | _ => exact trivial
    | _ => exact trivial
  rw [Bool.and_true] at this
  exact this
/-- a list that is looked at -/
def viLk (v : VE) : VI := fun env => (v env).bind fun m e => match itemsM m with
  | some ds => if ds.length < 100000 then .ok ds e else .no
  | none => .no
theorem sf_lk {fe : FE} {ve : VE} (h : SimE p x fe ve) : SimF p false (fiSeq fe) (viLk ve) := by
  have := SimR.bind (R2 := RIt false) (p2 := true) (k := fun d en S => ofI (iterOf S d) S) (kv := fun m e => match itemsM m with
    | some ds => if ds.length < 100000 then .ok ds e else .no
    | none => .no) h fun m d env en S As B he r nd => by
    cases m with
    | val y =>
      have hv : VwD S y d := r.vw
      have hn := nr_vw hv
      cases hy : itemsM (.val y) with
      | none => exact trivial
      | some ds =>
        refine at_if fun hl => ?_
        rcases hv with ⟨rfl, _⟩ | ⟨es, n, rfl, rfl, h3, h4⟩
        · cases d with
          | tup es => simp only [itemsM, itemsD, Option.some.injEq] at hy; subst hy; exact ok_dropG he nd ⟨rfl, by simpa [nr] using hn, .inl rfl⟩
          | lst es => simp only [itemsM, itemsD, Option.some.injEq] at hy; subst hy; exact ok_dropG he nd ⟨rfl, by simpa [nr] using hn, .inl rfl⟩
          | str s => simp only [itemsM, itemsD, Option.some.injEq] at hy; subst hy; exact ok_dropG he nd ⟨rfl, nrs_all (fun d hd => by obtain ⟨c, _, rfl⟩ := List.mem_map.mp hd; rfl), .inl rfl⟩
          | _ => simp [itemsM, itemsD] at hy
        · simp only [itemsM, itemsD, Option.some.injEq] at hy; subst hy
          have : iterOf S (.ref n) = some (.live n) := by simp [iterOf, h3]
          rw [this]
          exact ok_dropG he nd ⟨rfl, h4, .inr ⟨rfl, hl, n, rfl, h3⟩⟩
    | _ => exact trivial
  rw [Bool.and_true] at this
  exact this
/-! for -/
def forI (g : VG) (b : VS) : List D → VS
  | [] => fun env => .nx env
  | d :: ds => fun env => match g (.val d) env with
    | none => .no
    | some e1 => turnV (b e1) (forI g b ds)
def vFor (vi : VI) (g : VG) (b : VS) : VS := fun env => vthen (vi env) fun ds e => forI g b ds e
theorem forL_turn (g : FG) (b : FS) (d : D) (ds : List D) (en : En) (S : So) : forL g b (d :: ds) en S = match g d en S with
    | none => .no
    | some (e1, S1) => turnF (b e1 S1) (forL g b ds) := by
  show (match g d en S with
    | none => Fl.no
    | some (e1, S1) => match b e1 S1 with
      | .nx e2 S2 => forL g b ds e2 S2
      | .ct e2 S2 => forL g b ds e2 S2
      | .bk e2 S2 => .nx e2 S2
      | .rt d S2 => .rt d S2
      | .ex C e2 S2 => .ex C e2 S2
      | .no => .no) = _
  cases g d en S with
  | none => rfl
  | some p => rfl
theorem forR_turn (g : FG) (b : FS) (n k i : Nat) (en : En) (S : So) {ds : List D} (h : S[n]? = some (.lst ds)) : forR g b n (k + 1) i en S = match ds[i]? with
    | none => .nx en S
    | some d => match g d en S with
      | none => .no
      | some (e1, S1) => turnF (b e1 S1) (forR g b n k (i + 1)) := by
  show (match S[n]? with
    | some (.lst ds) => match ds[i]? with
      | none => Fl.nx en S
      | some d => match g d en S with
        | none => .no
        | some (e1, S1) => match b e1 S1 with
          | .nx e2 S2 => forR g b n k (i + 1) e2 S2
          | .ct e2 S2 => forR g b n k (i + 1) e2 S2
          | .bk e2 S2 => .nx e2 S2
          | .rt d S2 => .rt d S2
          | .ex C e2 S2 => .ex C e2 S2
          | .no => .no
    | _ => .no) = _
  rw [h]
  dsimp only
  cases ds[i]? with
  | none => rfl
  | some d =>
    dsimp only
    cases g d en S with
    | none => rfl
    | some p => rfl
theorem ss_forL {gt : FG} {wt : VG} (hg : SimG q1 I gt wt) (hb : SimS q2 I f v) : ∀ (ds : List D), nrs ds = true → SimS (q1 && q2) I (forL gt f ds) (forI wt v ds)
  | [], hn => ⟨fun env en S As he nd => ⟨en, S, As, rfl, he, nd, Fr.refl, Kp.refl, Mo.refl⟩⟩
  | d :: ds, hn => ⟨fun env en S As he nd => by
    simp only [nrs, Bool.and_eq_true] at hn
    have q := hg.run (.val d) d [] env en S As he (Rep.val hn.1) (by simpa using nd)
    rw [forL_turn]
    unfold forI
    cases e : wt (.val d) env with
    | none => exact trivial
    | some e1 =>
      rw [e] at q
      obtain ⟨en', S', As', h1, h2, h3, h4, h5, h6⟩ := q
      rw [h1]
      rw [List.append_nil] at h4
      have st := st_turn (q := q1 && q2) (q2 := q1 && q2) (hb.run e1 en' S' As' h2 h3) (fun env2 en2 S2 As2 he2 nd2 _ _ => (ss_forL hg hb ds hn.2).run env2 en2 S2 As2 he2 nd2) (fun z => by simp at z; exact z.2) id
      exact st.later h4 h5 h6 (fun z => by simp at z; exact z.1) id⟩
/-- over a list that stands, nothing being changed -/
theorem ss_forRp {gt : FG} {wt : VG} (hg : SimG true I gt wt) (hb : SimS true I f v) (n : Nat) (all : List D) (hn : nrs all = true) : ∀ (k i : Nat), all.length - i < k → ∀ (env : Env) (en : En) (S : So) (As : List (List Nat)), EnvR S env en As → Nd As.flatten → S[n]? = some (.lst all) → StP true I S en As.flatten (forR gt f n k i en S) (forI wt v (all.drop i) env)
  | 0, i, hk, env, en, S, As, he, nd, hS => by omega
  | k + 1, i, hk, env, en, S, As, he, nd, hS => by
    rw [forR_turn gt f n k i en S hS]
    by_cases hi : i < all.length
    · rw [List.drop_eq_getElem_cons hi, List.getElem?_eq_getElem hi]
      have hd : nr all[i] = true := nrs_mem hn (List.getElem_mem hi)
      have q := hg.run (.val all[i]) all[i] [] env en S As he (Rep.val hd) (by simpa using nd)
      unfold forI
      dsimp only
      cases e : wt (.val all[i]) env with
      | none => exact trivial
      | some e1 =>
        rw [e] at q
        obtain ⟨en', S', As', h1, h2, h3, h4, h5, h6⟩ := q
        rw [h1]
        rw [List.append_nil] at h4
        obtain ⟨J, rfl⟩ := h6 rfl
        have hl := (List.getElem?_eq_some_iff.mp hS).1
        have st := st_turn (q := true) (q2 := true) (kv := forI wt v (all.drop (i + 1))) (k := forR gt f n k (i + 1)) (hb.run e1 en' (S ++ J) As' h2 h3) (fun env2 en2 S2 As2 he2 nd2 _ mo => by
          obtain ⟨J', rfl⟩ := mo rfl
          exact ss_forRp hg hb n all hn k (i + 1) (by omega) env2 en2 _ As2 he2 nd2 (by rw [List.append_assoc, get_app hl]; exact hS)) id id
        exact st.later h4 h5 h6 id id
    · rw [List.drop_of_length_le (by omega), List.getElem?_eq_none (by omega)]
      exact ⟨en, S, As, rfl, he, nd, Fr.refl, Kp.refl, Mo.refl⟩
theorem ss_for {fi : FI} {vi : VI} {gt : FG} {wt : VG} (hi : SimF p x fi vi) (hg : SimG q1 I gt wt) (hb : SimS q2 I f v) (hx : (x || (q1 && q2)) = true := by rfl) : SimS (p && (q1 && q2)) I (fFor 100000 fi gt f) (vFor vi wt v) := ⟨fun env en S As he nd => by
  have := SimAt.then (q := q1 && q2) (I := I) (k := fun t S1 => match t with
    | .items ds => forL gt f ds en S1
    | .live n => forR gt f n 100000 0 en S1) (kv := fun ds e => forI wt v ds e) (hi.run env en S As he nd) fun ds t env1 S1 As1 B he1 r1 nd1 => by
    obtain ⟨rfl, hn, h | ⟨rfl, hl, n, rfl, hS⟩⟩ := r1
    · subst h
      exact ((ss_forL hg hb ds hn).run env1 en S1 As1 he1 nd1.left).wide fun n hn => by simp [hn]
    · simp only [Bool.false_or, Bool.and_eq_true] at hx
      obtain ⟨rfl, rfl⟩ := hx
      have := ss_forRp hg hb n ds hn 100000 0 (by omega) env1 en S1 As1 he1 nd1.left hS
      rw [List.drop_zero] at this
      exact this.wide fun n hn => by simp [hn]
  exact this⟩
/-- over a list that a name owns, as it stands at each turn -/
def forV (i : Nat) (g : VG) (b : VS) : Nat → Nat → VS
  | 0, _ => fun _ => .no
  | k + 1, j => fun env => match env.o[i]? with
    | some (some (.lst ms)) => match ms[j]? with
      | none => .nx env
      | some (.val d) => match g (.val d) env with
        | none => .no
        | some e1 => turnV (b e1) (forV i g b k (j + 1))
      | some _ => .no
    | _ => .no
def vForV (i : Nat) (g : VG) (b : VS) : VS := forV i g b 100000 0
theorem ss_forVr {i : Nat} {gt : FG} {wt : VG} (hg : SimG q1 (i :: I) gt wt) (hb : SimS q2 (i :: I) f v) (n : Nat) : ∀ (k j : Nat) (env : Env) (en : En) (S : So) (As : List (List Nat)), EnvR S env en As → Nd As.flatten → en[i]? = some (some (.ref n)) → StP (q1 && q2) I S en As.flatten (forR gt f n k j en S) (forV i wt v k j env)
  | 0, j, env, en, S, As, he, nd, hS => trivial
  | k + 1, j, env, en, S, As, he, nd, hS => by
    unfold forV
    cases ho : env.o[i]? with
    | none => exact trivial
    | some o =>
    cases o with
    | none => exact trivial
    | some m =>
    cases m with
    | lst ms =>
      obtain ⟨d, A, h1, h2, h3⟩ := at_var he ho
      obtain ⟨n', ds, B, rfl, g1, g2, rfl⟩ := rep_lst h3
      rw [hS] at h1; cases h1
      rw [forR_turn gt f n k j en S g1]
      dsimp only
      cases hm : ms[j]? with
      | none =>
        have : ds[j]? = none := by rw [List.getElem?_eq_none_iff] at hm ⊢; rw [← g2.length]; exact hm
        rw [this]
        exact ⟨en, S, As, rfl, he, nd, Fr.refl, Kp.refl, Mo.refl⟩
      | some m =>
        cases m with
        | val d =>
          obtain ⟨d', A1, A', A2, k1, k2, k3, k4⟩ := Reps.at g2 hm
          obtain ⟨rfl, hd, rfl⟩ := rep_val k3
          rw [k1]
          have q := hg.run (.val d') d' [] env en S As he (Rep.val hd) (by simpa using nd)
          dsimp only
          cases e : wt (.val d') env with
          | none => exact trivial
          | some e1 =>
            rw [e] at q
            obtain ⟨en', S', As', w1, w2, w3, w4, w5, w6⟩ := q
            rw [w1]
            rw [List.append_nil] at w4
            have hkp : ∀ {a b : En}, Kp (i :: I) a b → Kp I a b := fun h j hj => h j (List.mem_cons_of_mem _ hj)
            have hen : en'[i]? = some (some (.ref n)) := by rw [w5 i (by simp)]; exact hS
            have bd := hb.run e1 en' S' As' w2 w3
            have bd' : StP q2 I S' en' As'.flatten (f en' S') (v e1) := by
              cases ev : v e1 with
              | no => exact trivial
              | nx e => rw [ev] at bd; obtain ⟨a1, a2, a3, a4, a5, a6, a7, a8, a9⟩ := bd; exact ⟨a1, a2, a3, a4, a5, a6, a7, hkp a8, a9⟩
              | ct e => rw [ev] at bd; obtain ⟨a1, a2, a3, a4, a5, a6, a7, a8, a9⟩ := bd; exact ⟨a1, a2, a3, a4, a5, a6, a7, hkp a8, a9⟩
              | bk e => rw [ev] at bd; obtain ⟨a1, a2, a3, a4, a5, a6, a7, a8, a9⟩ := bd; exact ⟨a1, a2, a3, a4, a5, a6, a7, hkp a8, a9⟩
              | ex C e => rw [ev] at bd; obtain ⟨a1, a2, a3, a4, a5, a6, a7, a8, a9⟩ := bd; exact ⟨a1, a2, a3, a4, a5, a6, a7, hkp a8, a9⟩
              | rt m e => rw [ev] at bd; obtain ⟨a0, a1, a2, a3, a10, a4, a5, a6, a7, a8, a9, a11⟩ := bd; exact ⟨a0, a1, a2, a3, a10, a4, a5, a6, a7, a8, hkp a9, a11⟩
            have st : StP (q1 && q2) I S' en' As'.flatten (turnF (f en' S') (forR gt f n k (j + 1))) (turnV (v e1) (forV i wt v k (j + 1))) := by
              cases ev : v e1 with
              | no => exact trivial
              | nx e =>
                rw [ev] at bd
                obtain ⟨en2, S2, As2, b1, b2, b3, b4, b5, b6⟩ := bd
                rw [b1]
                exact StP.later (ss_forVr hg hb n k (j + 1) e en2 S2 As2 b2 b3 (by rw [b5 i (by simp)]; exact hen)) b4 (hkp b5) b6 (fun z => by simp at z; exact z.2) id
              | ct e =>
                rw [ev] at bd
                obtain ⟨en2, S2, As2, b1, b2, b3, b4, b5, b6⟩ := bd
                rw [b1]
                exact StP.later (ss_forVr hg hb n k (j + 1) e en2 S2 As2 b2 b3 (by rw [b5 i (by simp)]; exact hen)) b4 (hkp b5) b6 (fun z => by simp at z; exact z.2) id
              | bk e => rw [ev] at bd'; obtain ⟨a1, a2, a3, a4, a5, a6, a7, a8, a9⟩ := bd'; rw [a4]; exact ⟨a1, a2, a3, rfl, a5, a6, a7, a8, fun z => a9 (by simp at z; exact z.2)⟩
              | ex C e => rw [ev] at bd'; obtain ⟨a1, a2, a3, a4, a5, a6, a7, a8, a9⟩ := bd'; rw [a4]; exact ⟨a1, a2, a3, rfl, a5, a6, a7, a8, fun z => a9 (by simp at z; exact z.2)⟩
              | rt m e => rw [ev] at bd'; obtain ⟨a0, a1, a2, a3, a10, a4, a5, a6, a7, a8, a9, a11⟩ := bd'; rw [a4]; exact ⟨a0, a1, a2, a3, a10, rfl, a5, a6, a7, a8, a9, fun z => a11 (by simp at z; exact z.2)⟩
            exact st.later w4 (hkp w5) w6 (fun z => by simp at z; exact z.1) id
        | _ => exact trivial
    | _ => exact trivial
theorem ss_forV {i : Nat} {gt : FG} {wt : VG} (hg : SimG q1 (i :: I) gt wt) (hb : SimS q2 (i :: I) f v) : SimS (q1 && q2) I (fFor 100000 (fiSeq (fVar i)) gt f) (vForV i wt v) := ⟨fun env en S As he nd => by
  unfold vForV
  cases ho : env.o[i]? with
  | none => unfold forV; rw [ho]; exact trivial
  | some o =>
    cases o with
    | none => unfold forV; rw [ho]; exact trivial
    | some m =>
      cases m with
      | lst ms =>
        obtain ⟨d, A, h1, h2, h3⟩ := at_var he ho
        obtain ⟨n', ds, B, rfl, g1, g2, rfl⟩ := rep_lst h3
        have : fFor 100000 (fiSeq (fVar i)) gt f en S = forR gt f n' 100000 0 en S := by simp [fFor, fiSeq, fVar, h1, iterOf, g1]
        rw [this]
        exact ss_forVr hg hb n' 100000 0 env en S As he nd h1
      | _ => unfold forV; rw [ho]; exact trivial⟩
end loops
end VF

namespace VF
open PySem L2 PF
variable [Tab]
def intM : M → Option Int
  | .val (.int i) => some i
  | _ => none
def intsM : List M → Option (List Int)
  | [] => some []
  | m :: ms => match intM m, intsM ms with
    | some i, some r => some (i :: r)
    | _, _ => none
theorem intM_eq {m : M} {i : Int} (h : intM m = some i) : m = .val (.int i) := by
  cases m with
  | val d => cases d <;> simp [intM] at h; subst h; rfl
  | _ => simp [intM] at h
theorem intsM_eq : ∀ {ms : List M} {ns : List Int}, intsM ms = some ns → ms = ns.map fun i => .val (.int i)
  | [], ns, h => by simp only [intsM] at h; cases h; rfl
  | m :: ms, ns, h => by
    simp only [intsM] at h
    split at h
    · rename_i i r h1 h2
      cases h
      rw [intM_eq h1, intsM_eq h2]; rfl
    · cases h
theorem rav_ints {S : So} : ∀ {ns : List Int} {ds : List D} {B : List Nat}, RAv S (ns.map fun i => M.val (.int i)) ds B → ds = ns.map D.int
  | [], ds, B, h => by
    have := h.2.1
    cases ds with
    | nil => rfl
    | cons _ _ => simp at this
  | n :: ns, ds, B, h => by
    cases ds with
    | nil => have := h.2.1; simp at this
    | cons d ds =>
      have h0 : d = .int n := vwd_eq (h.2.2 0 (.val (.int n)) d rfl rfl) (by simp)
      have := rav_ints (ns := ns) (ds := ds) (B := []) ⟨rfl, by have := h.2.1; simpa using this, fun i m e h1 h2 => h.2.2 (i + 1) m e (by simpa using h1) (by simpa using h2)⟩
      rw [h0, this]; rfl
section its
variable {p pa pb pc x xa xb xc : Bool} {fa fb fc : FE} {va vb vc : VE} {gs : FA} {ws : VA}
theorem nrs_rg (lo : Int) (n : Nat) : nrs (rgD lo n) = true := nrs_all fun d hd => by
  obtain ⟨i, _, rfl⟩ := List.mem_map.mp hd; rfl
def rngOk (j : Int) : Bool := decide (-1000000000 ≤ j) && decide (j ≤ 1000000000)
theorem rngOk_iff {j : Int} (h : rngOk j = true) : -1000000000 ≤ j ∧ j ≤ 1000000000 := by simpa [rngOk] using h
/-- the numbers of a range -/
def rngM : Option (List Int) → Option (List D)
  | some [j] => if rngOk j = true then some (rgD 0 j.toNat) else none
  | some [i, j] => if rngOk i = true ∧ rngOk j = true then some (rgD i (j - i).toNat) else none
  | _ => none
def viRng (va : VA) : VI := fun env => (va env).bind fun ms e => ofI2 (rngM (intsM ms)) e
theorem sf_rng1 (ha : SimAV pa gs ws) (h1 : ∀ env ms e, ws env = .ok ms e → ms.length = 1) : SimF pa true (fiRng1 gs) (viRng ws) := by
  refine ⟨fun env en S As he nd => ?_⟩
  have q := ha.run env en S As he nd
  unfold viRng
  cases hw : ws env with
  | no => exact trivial
  | ex C e =>
    rw [hw] at q
    obtain ⟨S', As', e1, e2, e3, e4, e5⟩ := q
    exact ⟨S', As', by simp [fiRng1, e1], e2, e3, e4, e5⟩
  | ok ms e =>
    rw [hw] at q
    obtain ⟨ds, S', As', B, e1, e2, e3, e4, e5, e6⟩ := q
    show SimAt _ _ _ _ _ _ _ (ofI2 (rngM (intsM ms)) e)
    have hl := h1 env ms e hw
    cases hi : intsM ms with
    | none => exact trivial
    | some ns =>
      have hm := intsM_eq hi
      rw [hm] at e3 hl
      have hd := rav_ints e3
      match ns with
      | [j] =>
        simp only [rngM]
        by_cases hj : rngOk j = true
        · rw [if_pos hj]
          have hb := rngOk_iff hj
          refine ⟨.items (rgD 0 j.toNat), S', As', [], ?_, e2, ⟨rfl, nrs_rg _ _, .inl rfl⟩, by simpa using e4.left, e5.sub (fun n hn => by simp at hn ⊢; exact .inl hn), e6⟩
          unfold fiRng1
          rw [e1, hd]
          show (if -(2 ^ 62) ≤ j ∧ j < 2 ^ 62 then _ else _) = _
          rw [if_pos ⟨by omega, by omega⟩]
        · rw [if_neg hj]; exact trivial
      | [] => simp at hl
      | _ :: _ :: _ => simp at hl
theorem sf_rng2 (ha : SimAV pa gs ws) (h1 : ∀ env ms e, ws env = .ok ms e → ms.length = 2) : SimF pa true (fiRng2 gs) (viRng ws) := by
  refine ⟨fun env en S As he nd => ?_⟩
  have q := ha.run env en S As he nd
  unfold viRng
  cases hw : ws env with
  | no => exact trivial
  | ex C e =>
    rw [hw] at q
    obtain ⟨S', As', e1, e2, e3, e4, e5⟩ := q
    exact ⟨S', As', by simp [fiRng2, e1], e2, e3, e4, e5⟩
  | ok ms e =>
    rw [hw] at q
    obtain ⟨ds, S', As', B, e1, e2, e3, e4, e5, e6⟩ := q
    show SimAt _ _ _ _ _ _ _ (ofI2 (rngM (intsM ms)) e)
    have hl := h1 env ms e hw
    cases hi : intsM ms with
    | none => exact trivial
    | some ns =>
      have hm := intsM_eq hi
      rw [hm] at e3 hl
      have hd := rav_ints e3
      match ns with
      | [i, j] =>
        simp only [rngM]
        by_cases hj : rngOk i = true ∧ rngOk j = true
        · rw [if_pos hj]
          have hb := rngOk_iff hj.1
          have hb2 := rngOk_iff hj.2
          refine ⟨.items (rgD i (j - i).toNat), S', As', [], ?_, e2, ⟨rfl, nrs_rg _ _, .inl rfl⟩, by simpa using e4.left, e5.sub (fun n hn => by simp at hn ⊢; exact .inl hn), e6⟩
          unfold fiRng2
          rw [e1, hd]
          show (if -(2 ^ 62) ≤ i ∧ i < 2 ^ 62 ∧ -(2 ^ 62) ≤ j ∧ j < 2 ^ 62 then _ else _) = _
          rw [if_pos ⟨by omega, by omega, by omega, by omega⟩]
        · rw [if_neg hj]; exact trivial
      | [] => simp at hl
      | [_] => simp at hl
      | _ :: _ :: _ :: _ => simp at hl
/-- so many arguments -/
theorem len_nil : ∀ env ms e, vNil env = .ok ms e → ms.length = 0 := fun env ms e h => by unfold vNil at h; cases h; rfl
theorem len_cons {v : VE} {w : VA} {n : Nat} (h : ∀ env ms e, w env = .ok ms e → ms.length = n) : ∀ env ms e, vCons v w env = .ok ms e → ms.length = n + 1 := fun env ms e hh => by
  unfold vCons at hh
  cases hv : v env with
  | no => rw [hv] at hh; cases hh
  | ex => rw [hv] at hh; cases hh
  | ok m e1 =>
    rw [hv] at hh
    cases hw : w e1 with
    | no => simp only [Rv.bind, hw] at hh; cases hh
    | ex => simp only [Rv.bind, hw] at hh; cases hh
    | ok ms2 e2 =>
      simp only [Rv.bind, hw] at hh
      cases hh
      simp [h e1 ms2 _ hw]
/-! ### comprehensions -/
/-- a target of a comprehension: its names, and how they are cleared -/
def Env.clr (e : Env) : List Nat → Env
  | [] => e
  | i :: vs => (Env.clr e vs).put i none
structure SimO (vs : List Nat) (g : FG) (w : VG) : Prop where
  run : ∀ (d : D) (env : Env) (en : En) (S : So) (As : List (List Nat)), EnvR S env en As → nr d = true → Nd As.flatten → match w (.val d) env with
    | some e' => ∃ en' As', g d en S = some (en', S) ∧ EnvR S e' en' As' ∧ Nd As'.flatten ∧ (∀ n ∈ As'.flatten, n ∈ As.flatten) ∧ (∀ S2 e2 As2, EnvR S2 e2 en' As2 → Nd As2.flatten → ∃ As3, EnvR S2 (e2.clr vs) en As3 ∧ (∀ a, As3.flatten.count a ≤ As2.flatten.count a))
    | none => True
theorem clr_back {i : Nat} {en : En} {eo : Option D} {d : Option D} (h : en[i]? = some eo) : (en.set i d).set i eo = en := by
  rw [List.set_set]; exact set_self h
theorem so_name (i : Nat) : SimO [i] (gtName i) (tName i) := ⟨fun d env en S As he hd nd => by
  refine ⟨en.set i (some d), As.set i [], rfl, he.put i (slot_some (Rep.val hd)), nd.le fun a => ?_, fun n hn => (mem_set_flat hn).elim id (by intro z; cases z), fun S2 e2 As2 h2 nd2 => ?_⟩
  · have := count_set_le As i [] a
    simpa using this
  · refine ⟨As2.set i [], ?_, fun a => by have := count_set_le As2 i [] a; simpa using this⟩
    cases hi : en[i]? with
    | none =>
      have hl := List.getElem?_eq_none_iff.mp hi
      rw [List.set_eq_of_length_le hl] at h2
      have := h2.put (x := none) (e := none) (A := []) i rfl
      rw [List.set_eq_of_length_le hl] at this
      exact this
    | some eo =>
      have := h2.put (x := none) (e := eo) (A := []) i rfl
      rw [clr_back hi] at this
      exact this⟩
theorem so_pair {i j : Nat} (hij : i ≠ j) : SimO [i, j] (gtPair i j) (tPair i j) := ⟨fun d env en S As he hd nd => by
  cases d with
  | tup ds =>
    match ds with
    | [a, b] =>
      simp only [nr, nrs, Bool.and_true, Bool.and_eq_true] at hd
      refine ⟨(en.set i (some a)).set j (some b), (As.set i []).set j [], rfl, (he.put i (slot_some (Rep.val hd.1))).put j (slot_some (Rep.val hd.2)), nd.le fun a => ?_, fun n hn => ?_, fun S2 e2 As2 h2 nd2 => ?_⟩
      · have h1 := count_set_le As i [] a
        have h2 := count_set_le (As.set i []) j [] a
        simp only [List.count_nil] at h1 h2; omega
      · rcases mem_set_flat hn with q | q
        · exact (mem_set_flat q).elim id (by intro z; cases z)
        · cases q
      · refine ⟨(As2.set j []).set i [], ?_, fun a => by
          have h1 := count_set_le As2 j [] a
          have h2 := count_set_le (As2.set j []) i [] a
          simp only [List.count_nil] at h1 h2; omega⟩
        have key : ∀ (eo : Option D), EnvR S2 (e2.put j none) (((en.set i (some a)).set j (some b)).set j eo) (As2.set j []) := fun eo => h2.put j rfl
        have key2 : ∀ (eo eo' : Option D), EnvR S2 ((e2.put j none).put i none) ((((en.set i (some a)).set j (some b)).set j eo).set i eo') ((As2.set j []).set i []) := fun eo eo' => (key eo).put i rfl
        have back : ∃ eo eo', (((en.set i (some a)).set j (some b)).set j eo).set i eo' = en := by
          have e1 : ∀ eo, ((en.set i (some a)).set j (some b)).set j eo = (en.set i (some a)).set j eo := fun eo => by rw [List.set_set]
          cases hi : en[i]? with
          | none =>
            have hl := List.getElem?_eq_none_iff.mp hi
            cases hj : en[j]? with
            | none =>
              have hl2 := List.getElem?_eq_none_iff.mp hj
              exact ⟨none, none, by rw [List.set_eq_of_length_le hl, List.set_eq_of_length_le hl2, List.set_eq_of_length_le hl2, List.set_eq_of_length_le hl]⟩
            | some eo =>
              refine ⟨eo, none, ?_⟩
              rw [List.set_eq_of_length_le hl, clr_back hj, List.set_eq_of_length_le hl]
          | some eo' =>
            cases hj : en[j]? with
            | none =>
              have hl2 := List.getElem?_eq_none_iff.mp hj
              refine ⟨none, eo', ?_⟩
              rw [List.set_eq_of_length_le (l := en.set i (some a)) (by simpa using hl2), List.set_eq_of_length_le (l := en.set i (some a)) (by simpa using hl2)]
              exact clr_back hi
            | some eo =>
              refine ⟨eo, eo', ?_⟩
              rw [e1, List.set_comm _ _ hij, List.set_set, set_self hj, set_self hi]
        obtain ⟨eo, eo', hb⟩ := back
        have := key2 eo eo'
        rw [hb] at this
        exact this
    | [] => exact trivial
    | [_] => exact trivial
    | _ :: _ :: _ :: _ => exact trivial
  | _ => exact trivial⟩
/-- nothing is changed in the turns -/
def lcP (g : VG) (c : VT) (f : VE) (env : Env) : List D → List M → Option (List M)
  | [], acc => some acc
  | d :: ds, acc => match g (.val d) env with
    | none => none
    | some e1 => match c e1 with
      | .ok true _ => match f e1 with
        | .ok y _ => if acc.length < 1000000 then lcP g c f env ds (acc ++ [y]) else none
        | _ => none
      | .ok false _ => lcP g c f env ds acc
      | _ => none
end its
end VF

namespace VF
open PySem L2 PF
variable [Tab]
/-! ### what is owned is told by the value -/
mutual
theorem Rep.det {S : So} : ∀ {m : M} {d : D} {A A' : List Nat}, Rep S m d A → Rep S m d A' → A = A'
  | .val d, e, A, A', h, k => by unfold Rep at h k; rw [h.2.2, k.2.2]
  | .lst ms, e, A, A', h, k => by
    unfold Rep at h k
    obtain ⟨n, ds, B, h1, h2, h3, rfl⟩ := h
    obtain ⟨n', ds', B', k1, k2, k3, rfl⟩ := k
    rw [h1] at k1; cases k1
    rw [h2] at k2; cases k2
    rw [Reps.det h3 k3]
  | .dic ks ms, e, A, A', h, k => by
    unfold Rep at h k
    obtain ⟨n, ds, B, h1, h2, h4, h3, rfl⟩ := h
    obtain ⟨n', ds', B', k1, k2, k4, k3, rfl⟩ := k
    rw [h1] at k1; cases k1
    rw [h2] at k2; cases k2
    rw [Reps.det h3 k3]
  | .ins C ns ms, e, A, A', h, k => by
    unfold Rep at h k
    obtain ⟨n, ds, B, h1, h2, h4, h5, h3, rfl⟩ := h
    obtain ⟨n', ds', B', k1, k2, k4, k5, k3, rfl⟩ := k
    rw [h1] at k1; cases k1
    rw [h2] at k2; cases k2
    rw [Reps.det h3 k3]
theorem Reps.det {S : So} : ∀ {m : List M} {d : List D} {A A' : List Nat}, Reps S m d A → Reps S m d A' → A = A'
  | [], e, A, A', h, k => by unfold Reps at h k; rw [h.2, k.2]
  | m :: ms, e, A, A', h, k => by
    unfold Reps at h k
    obtain ⟨d, r, B1, B2, rfl, h2, h3, rfl⟩ := h
    obtain ⟨d', r', B1', B2', k1, k2, k3, rfl⟩ := k
    cases k1
    rw [Rep.det h2 k2, Reps.det h3 k3]
end
theorem SlotsR.det {S : So} : ∀ {o : List (Option M)} {en : En} {As As' : List (List Nat)}, SlotsR S o en As → SlotsR S o en As' → As = As'
  | [], en, As, As', h, k => by obtain ⟨_, rfl⟩ := h; obtain ⟨_, rfl⟩ := k; rfl
  | x :: o, en, As, As', h, k => by
    obtain ⟨e, r, A, Ar, rfl, rfl, h1, h2⟩ := h
    obtain ⟨e', r', A', Ar', q, rfl, k1, k2⟩ := k
    cases q
    have : A = A' := by
      cases x with
      | none => rw [show A = [] from h1, show A' = [] from k1]
      | some m =>
        obtain ⟨d, z1, z2⟩ := h1
        obtain ⟨d', w1, w2⟩ := k1
        rw [z1] at w1; cases w1
        exact z2.det w2
    rw [this, SlotsR.det h2 k2]
theorem EnvR.det {S : So} {env : Env} {en : En} {As As' : List (List Nat)} (h : EnvR S env en As) (k : EnvR S env en As') : As = As' := h.sl.det k.sl
/-! ### clearing names -/
theorem EnvR.clr {S : So} {env : Env} {en : En} {As : List (List Nat)} (h : EnvR S env en As) : ∀ vs : List Nat, ∃ As', EnvR S (env.clr vs) (wipeD en vs) As' ∧ (∀ a, As'.flatten.count a ≤ As.flatten.count a)
  | [] => ⟨As, h, fun _ => Nat.le_refl _⟩
  | v :: vs => by
    obtain ⟨As', h1, h2⟩ := EnvR.clr h vs
    refine ⟨As'.set v [], h1.put v (show SlotR S none none [] from rfl), fun a => ?_⟩
    have := count_set_le As' v [] a
    have := h2 a
    simp only [List.count_nil] at *
    omega
def Env.clr2 (e : Env) : List Nat → Env
  | [] => e
  | i :: vs => Env.clr2 (e.put i none) vs
theorem EnvR.clr2 {S : So} {en : En} : ∀ (vs : List Nat) {env : Env} {As : List (List Nat)}, EnvR S env (wipeD en vs) As → ∃ As', EnvR S (env.clr2 vs) en As' ∧ (∀ a, As'.flatten.count a ≤ As.flatten.count a)
  | [], env, As, h => ⟨As, h, fun _ => Nat.le_refl _⟩
  | v :: vs, env, As, h => by
    have h' : EnvR S env ((wipeD en vs).set v none) As := h
    have : EnvR S (env.put v none) (wipeD en vs) (As.set v []) := by
      cases hv : (wipeD en vs)[v]? with
      | none =>
        have hl := List.getElem?_eq_none_iff.mp hv
        rw [List.set_eq_of_length_le hl] at h'
        have := h'.put (x := none) (e := none) (A := []) v rfl
        rw [List.set_eq_of_length_le hl] at this
        exact this
      | some eo =>
        have := h'.put (x := none) (e := eo) (A := []) v rfl
        rw [clr_back hv] at this
        exact this
    obtain ⟨As', h1, h2⟩ := EnvR.clr2 vs this
    refine ⟨As', h1, fun a => ?_⟩
    have := count_set_le As v [] a
    have := h2 a
    simp only [List.count_nil] at *
    omega
theorem mem_of_count {A B : List Nat} (h : ∀ a, A.count a ≤ B.count a) {n : Nat} (hn : n ∈ A) : n ∈ B := List.count_pos_iff.mp (Nat.lt_of_lt_of_le (List.count_pos_iff.mpr hn) (h n))
section lc
variable {p x pc pf : Bool} {g : FG} {w : VG} {c : FT} {vc : VT} {f : FE} {vf : VE} {vs : List Nat} {fi : FI} {vi : VI}
/-- one turn, nothing changed -/
theorem lcP_turn (hg : SimO vs g w) (hc : SimT true c vc) (hf : SimE true true f vf) {d : D} {env : Env} {en : En} {S : So} {As : List (List Nat)} (he : EnvR S env en As) (nd : Nd As.flatten) (hd : nr d = true) {e1 : Env} (h1 : w (.val d) env = some e1) :
    ∃ en1, g d en S = some (en1, S) ∧ (∀ k e, vc e1 = .ok k e → ∃ J, c en1 S = .ok k (S ++ J) ∧ ∀ y e', vf e1 = .ok y e' → ∃ J' dy B, f en1 (S ++ J) = .ok dy (S ++ J ++ J') ∧ Rep (S ++ J ++ J') y dy B ∧ Nd B ∧ ∀ n ∈ B, (S ++ J).length ≤ n) := by
  have q := hg.run d env en S As he hd nd
  rw [h1] at q
  obtain ⟨en1, As1, g1, g2, g3, g4, g5⟩ := q
  refine ⟨en1, g1, fun k e hk => ?_⟩
  have qc := hc.run e1 en1 S As1 g2 g3
  rw [hk] at qc
  obtain ⟨b, S1, As2, B, c1, c2, ⟨rfl, rfl⟩, c4, c5, c6⟩ := qc
  obtain ⟨rfl, J, rfl⟩ := c6 rfl
  refine ⟨J, c1, fun y e' hy => ?_⟩
  have qf := hf.run e en1 (S ++ J) As1 g2.more g3
  rw [hy] at qf
  obtain ⟨dy, S2, As3, B, f1, f2, f3, f4, f5, f6⟩ := qf
  obtain ⟨rfl, J', rfl⟩ := f6 rfl
  have : As3 = As1 := f2.det (g2.more.more)
  subst this
  exact ⟨J', dy, B, f1, f3, f4.right, fun n hn => (f5.new n (by simp [hn])).elim (fun z => (f4.not z hn).elim) id⟩
/-- the turns over fixed items -/
theorem lcP_run (hg : SimO vs g w) (hc : SimT true c vc) (hf : SimE true true f vf) {env : Env} {en : En} {As : List (List Nat)} (nd : Nd As.flatten) {S0 : So} : ∀ (ds : List D) (acc : List M) (dacc : List D) (S : So) (B : List Nat) (out : List M), EnvR S env en As → nrs ds = true → Reps S acc dacc B → Nd B → (∀ n ∈ B, S0.length ≤ n) → (S0.length ≤ S.length) → lcP w vc vf env ds acc = some out →
    ∃ J dout B', lcL g c f en ds dacc S = .ok dout (S ++ J) ∧ Reps (S ++ J) out dout B' ∧ Nd B' ∧ ∀ n ∈ B', S0.length ≤ n
  | [], acc, dacc, S, B, out, he, hn, hr, nb, hb, hl, h => by
    simp only [lcP] at h; cases h
    exact ⟨[], dacc, B, by simp [lcL], by simpa using hr, nb, hb⟩
  | d :: ds, acc, dacc, S, B, out, he, hn, hr, nb, hb, hl, h => by
    simp only [nrs, Bool.and_eq_true] at hn
    unfold lcP at h
    cases hw : w (.val d) env with
    | none => rw [hw] at h; cases h
    | some e1 =>
      rw [hw] at h
      dsimp only at h
      obtain ⟨en1, t1, t2⟩ := lcP_turn hg hc hf he nd hn.1 hw
      cases hk : vc e1 with
      | no => rw [hk] at h; cases h
      | ex => rw [hk] at h; cases h
      | ok k e =>
        rw [hk] at h
        obtain ⟨J, c1, t3⟩ := t2 k e hk
        cases k with
        | false =>
          dsimp only at h
          obtain ⟨J', dout, B', r1, r2, r3, r4⟩ := lcP_run hg hc hf nd ds acc dacc (S ++ J) B out he.more hn.2 hr.more nb hb (by simp; omega) h
          refine ⟨J ++ J', dout, B', ?_, by rw [← List.append_assoc]; exact r2, r3, r4⟩
          rw [← List.append_assoc]
          simp [lcL, t1, c1, r1]
        | true =>
          dsimp only at h
          cases hy : vf e1 with
          | no => rw [hy] at h; cases h
          | ex => rw [hy] at h; cases h
          | ok y e' =>
            rw [hy] at h
            dsimp only at h
            split at h
            · rename_i hlen
              obtain ⟨J', dy, By, f1, f2, f3, f4⟩ := t3 y e' hy
              have hB : ∀ n ∈ B, n < S.length := hr.lt
              obtain ⟨J2, dout, B', r1, r2, r3, r4⟩ := lcP_run hg hc hf nd ds (acc ++ [y]) (dacc ++ [dy]) (S ++ J ++ J') (B ++ (By ++ [])) out he.more.more hn.2 (hr.more.more.append (Reps.cons f2 Reps.nil)) (nb.app (by simpa using f3) (fun n hn z => by
                  have := f4 n (by simpa using z)
                  have := hB n hn
                  simp at *; omega)) (fun n hn => by
                  simp only [List.append_nil, List.mem_append] at hn
                  rcases hn with hn | hn
                  · exact hb n hn
                  · have := f4 n hn; simp at this; omega) (by simp; omega) h
              refine ⟨J ++ J' ++ J2, dout, B', ?_, by simpa using r2, r3, r4⟩
              have hl2 : dacc.length < sizeLine := by rw [← hr.length]; exact lim_lt hlen
              simp only [lcL, t1, c1, bind_ok, if_true, f1, hl2, r1]
              simp
            · cases h
/-- the same over a list that stands -/
theorem lcP_runR (hg : SimO vs g w) (hc : SimT true c vc) (hf : SimE true true f vf) {env : Env} {en : En} {As : List (List Nat)} (nd : Nd As.flatten) {S0 : So} (n : Nat) (all : List D) (hna : nrs all = true) : ∀ (k i : Nat) (acc : List M) (dacc : List D) (S : So) (B : List Nat) (out : List M), all.length - i < k → S[n]? = some (.lst all) → EnvR S env en As → Reps S acc dacc B → Nd B → (∀ n ∈ B, S0.length ≤ n) → (S0.length ≤ S.length) → lcP w vc vf env (all.drop i) acc = some out →
    ∃ J dout B', lcR g c f en n k i dacc S = .ok dout (S ++ J) ∧ Reps (S ++ J) out dout B' ∧ Nd B' ∧ ∀ n ∈ B', S0.length ≤ n
  | 0, i, acc, dacc, S, B, out, hk, hS, he, hr, nb, hb, hl, h => by omega
  | k + 1, i, acc, dacc, S, B, out, hk, hS, he, hr, nb, hb, hl, h => by
    by_cases hi : i < all.length
    · rw [List.drop_eq_getElem_cons hi] at h
      have hd : nr all[i] = true := nrs_mem hna (List.getElem_mem hi)
      have hge : all[i]? = some all[i] := List.getElem?_eq_getElem hi
      have hSl := (List.getElem?_eq_some_iff.mp hS).1
      unfold lcP at h
      cases hw : w (.val all[i]) env with
      | none => rw [hw] at h; cases h
      | some e1 =>
        rw [hw] at h
        dsimp only at h
        obtain ⟨en1, t1, t2⟩ := lcP_turn hg hc hf he nd hd hw
        cases hk' : vc e1 with
        | no => rw [hk'] at h; cases h
        | ex => rw [hk'] at h; cases h
        | ok kk e =>
          rw [hk'] at h
          obtain ⟨J, c1, t3⟩ := t2 kk e hk'
          cases kk with
          | false =>
            dsimp only at h
            obtain ⟨J', dout, B', r1, r2, r3, r4⟩ := lcP_runR hg hc hf nd n all hna k (i + 1) acc dacc (S ++ J) B out (by omega) (by rw [get_app hSl]; exact hS) he.more hr.more nb hb (by simp; omega) h
            refine ⟨J ++ J', dout, B', ?_, by rw [← List.append_assoc]; exact r2, r3, r4⟩
            rw [← List.append_assoc]
            simp [lcR, hS, hge, t1, c1, r1]
          | true =>
            dsimp only at h
            cases hy : vf e1 with
            | no => rw [hy] at h; cases h
            | ex => rw [hy] at h; cases h
            | ok y e' =>
              rw [hy] at h
              dsimp only at h
              split at h
              · rename_i hlen
                obtain ⟨J', dy, By, f1, f2, f3, f4⟩ := t3 y e' hy
                have hB : ∀ n ∈ B, n < S.length := hr.lt
                obtain ⟨J2, dout, B', r1, r2, r3, r4⟩ := lcP_runR hg hc hf nd n all hna k (i + 1) (acc ++ [y]) (dacc ++ [dy]) (S ++ J ++ J') (B ++ (By ++ [])) out (by omega) (by rw [List.append_assoc, get_app hSl]; exact hS) he.more.more (hr.more.more.append (Reps.cons f2 Reps.nil)) (nb.app (by simpa using f3) (fun n hn z => by
                    have := f4 n (by simpa using z)
                    have := hB n hn
                    simp at *; omega)) (fun n hn => by
                    simp only [List.append_nil, List.mem_append] at hn
                    rcases hn with hn | hn
                    · exact hb n hn
                    · have := f4 n hn; simp at this; omega) (by simp; omega) h
                refine ⟨J ++ J' ++ J2, dout, B', ?_, by simpa using r2, r3, r4⟩
                have hl2 : dacc.length < sizeLine := by rw [← hr.length]; exact lim_lt hlen
                simp only [lcR, hS, hge, t1, c1, bind_ok, if_true, f1, hl2, r1]
                simp
              · cases h
    · rw [List.drop_of_length_le (by omega)] at h
      simp only [lcP] at h; cases h
      refine ⟨[], dacc, B, ?_, by simpa using hr, nb, hb⟩
      simp [lcR, hS, List.getElem?_eq_none (show all.length ≤ i by omega)]
def frzM (ms : List M) : Option M := (valsM ms).map fun ds => .val (.lst ds)
/-- a new list, frozen -/
def vLc (vs : List Nat) (vi : VI) (g : VG) (c : VT) (f : VE) : VE := fun env => (vi env).bind fun ds e => ofM ((lcP g c f (e.clr vs) ds []).bind frzM) e
/-- a new list that is owned -/
def vLcN (vs : List Nat) (vi : VI) (g : VG) (c : VT) (f : VE) : VE := fun env => (vi env).bind fun ds e => ofM ((lcP g c f (e.clr vs) ds []).map M.lst) e
theorem lc_key (hg : SimO vs g w) (hc : SimT true c vc) (hf : SimE true true f vf) {ds : List D} {t : ItD} {env : Env} {en : En} {S : So} {As : List (List Nat)} {A : List Nat} {out : List M} (he : EnvR S env en As) (r : RIt x S ds t A) (nd : Nd (As.flatten ++ A)) (hl : lcP w vc vf (env.clr vs) ds [] = some out) :
    ∃ J dout B', lcT 100000 g c f (wipeD en vs) t S = .ok dout (S ++ J) ∧ Reps (S ++ J) out dout B' ∧ Nd B' ∧ ∀ n ∈ B', S.length ≤ n := by
  obtain ⟨As', h1, h2⟩ := he.clr vs
  have nd' : Nd As'.flatten := nd.left.le h2
  obtain ⟨rfl, hn, ht⟩ := r
  rcases ht with rfl | ⟨_, hlen, n, rfl, hS⟩
  · exact lcP_run hg hc hf nd' ds [] [] S [] out h1 hn Reps.nil Nd.nil (by simp) (Nat.le_refl _) hl
  · exact lcP_runR hg hc hf nd' (S0 := S) n ds hn 100000 0 [] [] S [] out (by omega) hS h1 Reps.nil Nd.nil (by simp) (Nat.le_refl _) (by rw [List.drop_zero]; exact hl)
theorem se_lc (hi : SimF p x fi vi) (hg : SimO vs g w) (hc : SimT true c vc) (hf : SimE true true f vf) : SimE p true (fLc 100000 false vs fi g c f) (vLc vs vi w vc vf) := by
  have := SimR.bind (R2 := RE true) (p2 := true) (k := fun t en S1 => (noX (lcT 100000 g c f (wipeD en vs) t S1)).bind fun ds S2 => ofO (some (newL false ds S2))) (kv := fun ds e => ofM ((lcP w vc vf (e.clr vs) ds []).bind frzM) e) hi fun ds t env en S As A he r nd => by
    cases hl : lcP w vc vf (env.clr vs) ds [] with
    | none => exact trivial
    | some out =>
      show SimAt _ _ _ _ _ _ _ (ofM (frzM out) env)
      cases hm : valsM out with
      | none => unfold frzM; rw [hm]; exact trivial
      | some es =>
        obtain ⟨J, dout, B', r1, r2, r3, r4⟩ := lc_key hg hc hf he r nd hl
        rw [valsM_eq hm] at r2
        obtain ⟨rfl, h4, rfl⟩ := Reps.vals_of r2
        rw [r1]
        unfold frzM; rw [hm]
        exact SimAt.ok (B := []) he nd (fun n hn => by simp [hn]) (show Rep _ _ _ _ from Rep.val (by simpa [nr] using h4)) (by simpa using nd.left) (by simp)
  rw [Bool.and_true] at this
  exact this
theorem se_lcN (hi : SimF p x fi vi) (hg : SimO vs g w) (hc : SimT true c vc) (hf : SimE true true f vf) : SimE p true (fLc 100000 true vs fi g c f) (vLcN vs vi w vc vf) := by
  have := SimR.bind (R2 := RE true) (p2 := true) (k := fun t en S1 => (noX (lcT 100000 g c f (wipeD en vs) t S1)).bind fun ds S2 => ofO (some (newL true ds S2))) (kv := fun ds e => ofM ((lcP w vc vf (e.clr vs) ds []).map M.lst) e) hi fun ds t env en S As A he r nd => by
    cases hl : lcP w vc vf (env.clr vs) ds [] with
    | none => exact trivial
    | some out =>
      obtain ⟨J, dout, B', r1, r2, r3, r4⟩ := lc_key hg hc hf he r nd hl
      rw [r1]
      show SimAt (RE true) true S env en (As.flatten ++ A) (.ok (.ref (S ++ J).length) ((S ++ J) ++ [O.lst dout])) (.ok (.lst out) env)
      rw [List.append_assoc]
      have hlt : ∀ n ∈ B', n < (S ++ J).length := r2.lt
      refine SimAt.ok (B := (S ++ J).length :: B') he nd (fun n hn => by simp [hn]) ?_ ?_ ?_
      · show Rep _ _ _ _
        unfold Rep
        refine ⟨(S ++ J).length, dout, B', rfl, ?_, ?_, rfl⟩
        · rw [← List.append_assoc]; simp
        · rw [← List.append_assoc]; exact r2.more
      · have : Nd ((As.flatten ++ B') ++ [(S ++ J).length]) := (nd.left.app r3 fun n hn z => by
          have := he.lt n hn
          have := r4 n z
          omega).app (Nd.one _) fun n hn z => by
            simp only [List.mem_singleton] at z
            rcases List.mem_append.mp hn with hn | hn
            · have := he.lt n hn; simp at z; omega
            · have := hlt n hn; omega
        exact this.le fun a => by simp only [List.count_append, List.count_cons, List.count_nil]; omega
      · intro n hn
        rcases List.mem_cons.mp hn with rfl | hn
        · exact .inr (by simp)
        · exact .inr (r4 n hn)
  rw [Bool.and_true] at this
  exact this
/-- the turns may change what is owned -/
def lcE (g : VG) (c : VT) (f : VE) (vs : List Nat) : List D → List M → Env → Rv (List M)
  | [], acc, e => .ok acc e
  | d :: ds, acc, e => match g (.val d) e with
    | none => .no
    | some e1 => (c e1).bind fun k e2 => if k = true then (f e2).bind fun y e3 => if acc.length < 1000000 then lcE g c f vs ds (acc ++ [y]) (e3.clr vs) else .no else lcE g c f vs ds acc (e2.clr vs)
theorem lcE_run (hg : SimO vs g w) (hc : SimT pc c vc) (hf : SimE pf true f vf) {en : En} : ∀ (ds : List D) (acc : List M) (dacc : List D) (S : So) (env env' : Env) (As : List (List Nat)) (B : List Nat) (out : List M), EnvR S env en As → nrs ds = true → Reps S acc dacc B → Nd (As.flatten ++ B) → lcE w vc vf vs ds acc env = .ok out env' →
    ∃ S' dout As' B', lcL g c f en ds dacc S = .ok dout S' ∧ EnvR S' env' en As' ∧ Reps S' out dout B' ∧ Nd (As'.flatten ++ B') ∧ Fr S (As.flatten ++ B) S' (As'.flatten ++ B')
  | [], acc, dacc, S, env, env', As, B, out, he, hn, hr, nd, h => by
    simp only [lcE] at h; cases h
    exact ⟨S, dacc, As, B, rfl, he, hr, nd, Fr.refl⟩
  | d :: ds, acc, dacc, S, env, env', As, B, out, he, hn, hr, nd, h => by
    simp only [nrs, Bool.and_eq_true] at hn
    unfold lcE at h
    cases hw : w (.val d) env with
    | none => rw [hw] at h; cases h
    | some e1 =>
      rw [hw] at h
      dsimp only at h
      have q := hg.run d env en S As he hn.1 nd.left
      rw [hw] at q
      obtain ⟨en1, As1, g1, g2, g3, g4, g5⟩ := q
      have ndB : Nd (As1.flatten ++ B) := g3.app nd.right fun n hn z => nd.not (g4 n hn) z
      have fr0 : Fr S (As.flatten ++ B) S (As1.flatten ++ B) := ⟨Nat.le_refl _, fun _ _ _ => rfl, fun n hn => .inl (by
        rcases List.mem_append.mp hn with hn | hn
        · simp [g4 n hn]
        · simp [hn])⟩
      have qc := SimAt.hold (stab_reps (p := pc)) inl_reps (hc.run e1 en1 S As1 g2 g3) hr ndB
      cases hk : vc e1 with
      | no => rw [hk] at h; cases h
      | ex => rw [hk] at h; cases h
      | ok k e2 =>
        rw [hk] at h qc
        obtain ⟨b, S1, As2, B2, c1, c2, ⟨Ba, Bb, rfl, c3, rfl, rfl⟩, c4, c5, c6⟩ := qc
        rw [List.append_nil] at c4 c5
        cases b with
        | false =>
          have h' : lcE w vc vf vs ds acc (e2.clr vs) = .ok out env' := h
          obtain ⟨As3, z1, z2⟩ := g5 S1 e2 As2 c2 c4.left
          have nd3 : Nd (As3.flatten ++ Ba) := c4.le fun a => by have := z2 a; simp only [List.count_append]; omega
          obtain ⟨S', dout, As', B', r1, r2, r3, r4, r5⟩ := lcE_run hg hc hf ds acc dacc S1 (e2.clr vs) env' As3 Ba out z1 hn.2 c3 nd3 h'
          refine ⟨S', dout, As', B', ?_, r2, r3, r4, fr0.trans (c5.trans (Fr.trans ⟨Nat.le_refl _, fun _ _ _ => rfl, fun n hn => .inl ?_⟩ r5))⟩
          · simp [lcL, g1, c1, r1]
          · rcases List.mem_append.mp hn with hn | hn
            · simp [mem_of_count z2 hn]
            · simp [hn]
        | true =>
          have h' : ((vf e2).bind fun y e3 => if acc.length < 1000000 then lcE w vc vf vs ds (acc ++ [y]) (e3.clr vs) else .no) = .ok out env' := h
          have qf := SimAt.hold (stab_reps (p := pf)) inl_reps (hf.run e2 en1 S1 As2 c2 c4.left) c3 c4
          cases hy : vf e2 with
          | no => rw [hy] at h'; cases h'
          | ex => rw [hy] at h'; cases h'
          | ok y e3 =>
            rw [hy] at h' qf
            obtain ⟨dy, S2, As3, B3, f1, f2, ⟨Bc, Bd, rfl, f3, f3'⟩, f4, f5, f6⟩ := qf
            have h2 : (if acc.length < 1000000 then lcE w vc vf vs ds (acc ++ [y]) (e3.clr vs) else .no) = .ok out env' := h'
            split at h2
            · rename_i hlen
              obtain ⟨As4, z1, z2⟩ := g5 S2 e3 As3 f2 f4.left
              have nd4 : Nd (As4.flatten ++ (Bc ++ (Bd ++ []))) := f4.le fun a => by have := z2 a; simp only [List.count_append, List.count_nil]; omega
              obtain ⟨S', dout, As', B', r1, r2, r3, r4, r5⟩ := lcE_run hg hc hf ds (acc ++ [y]) (dacc ++ [dy]) S2 (e3.clr vs) env' As4 (Bc ++ (Bd ++ [])) out z1 hn.2 (f3.append (Reps.cons f3' Reps.nil)) nd4 h2
              refine ⟨S', dout, As', B', ?_, r2, r3, r4, fr0.trans (c5.trans (f5.trans (Fr.trans ⟨Nat.le_refl _, fun _ _ _ => rfl, fun n hn => .inl ?_⟩ r5)))⟩
              · have hl2 : dacc.length < sizeLine := by rw [← hr.length]; exact lim_lt hlen
                simp only [lcL, g1, c1, bind_ok, if_true, f1, hl2, r1]
              · simp only [List.append_nil, List.mem_append] at hn ⊢
                rcases hn with hn | hn
                · exact .inl (mem_of_count z2 hn)
                · exact .inr hn
            · cases h2
def vLcE (vs : List Nat) (vi : VI) (g : VG) (c : VT) (f : VE) (k : List M → Option M) : VE := fun env => (vi env).bind fun ds e => match lcE g c f vs ds [] (e.clr vs) with
  | .ok ms e' => ofM (k ms) (e'.clr2 vs)
  | _ => .no
theorem lcE_key (hg : SimO vs g w) (hc : SimT pc c vc) (hf : SimE pf true f vf) {ds : List D} {t : ItD} {env env' : Env} {en : En} {S : So} {As : List (List Nat)} {A : List Nat} {out : List M} (he : EnvR S env en As) (r : RIt true S ds t A) (nd : Nd (As.flatten ++ A)) (hl : lcE w vc vf vs ds [] (env.clr vs) = .ok out env') :
    ∃ S' dout As' B', lcT 100000 g c f (wipeD en vs) t S = .ok dout S' ∧ EnvR S' (env'.clr2 vs) en As' ∧ Reps S' out dout B' ∧ Nd (As'.flatten ++ B') ∧ Fr S (As.flatten ++ A) S' (As'.flatten ++ B') := by
  obtain ⟨As', h1, h2⟩ := he.clr vs
  have nd' : Nd As'.flatten := nd.left.le h2
  obtain ⟨rfl, hn, ht⟩ := r
  rcases ht with rfl | ⟨z, _⟩
  · obtain ⟨S', dout, As2, B', r1, r2, r3, r4, r5⟩ := lcE_run hg hc hf ds [] [] S (env.clr vs) env' As' [] out h1 hn Reps.nil (by simpa using nd') hl
    obtain ⟨As3, g1, g2⟩ := EnvR.clr2 vs r2
    refine ⟨S', dout, As3, B', r1, g1, r3, r4.le fun a => by have := g2 a; simp only [List.count_append]; omega, ⟨r5.len, fun n hl hn => r5.same n hl fun z => hn ?_, fun n hn => ?_⟩⟩
    · rw [List.append_nil] at z ⊢
      exact mem_of_count h2 z
    · have hn' : n ∈ As2.flatten ++ B' := by
        rcases List.mem_append.mp hn with hn | hn
        · simp [mem_of_count g2 hn]
        · simp [hn]
      rcases r5.new n hn' with q | q
      · rw [List.append_nil] at q ⊢
        exact .inl (mem_of_count h2 q)
      · exact .inr q
  · cases z
theorem se_lcE (hi : SimF p true fi vi) (hg : SimO vs g w) (hc : SimT pc c vc) (hf : SimE pf true f vf) : SimE false true (fLc 100000 false vs fi g c f) (vLcE vs vi w vc vf frzM) := by
  have := SimR.bind (R2 := RE true) (p2 := false) (k := fun t en S1 => (noX (lcT 100000 g c f (wipeD en vs) t S1)).bind fun ds S2 => ofO (some (newL false ds S2))) (kv := fun ds e => match lcE w vc vf vs ds [] (e.clr vs) with
    | .ok ms e' => ofM (frzM ms) (e'.clr2 vs)
    | _ => .no) hi fun ds t env en S As A he r nd => by
    cases hl : lcE w vc vf vs ds [] (env.clr vs) with
    | no => exact trivial
    | ex => exact trivial
    | ok out env' =>
      dsimp only
      cases hm : valsM out with
      | none => unfold frzM; rw [hm]; exact trivial
      | some es =>
        obtain ⟨S', dout, As', B', r1, r2, r3, r4, r5⟩ := lcE_key hg hc hf he r nd hl
        rw [valsM_eq hm] at r3
        obtain ⟨rfl, h4, rfl⟩ := Reps.vals_of r3
        rw [r1]
        unfold frzM; rw [hm]
        exact ⟨.lst dout, S', As', [], rfl, r2, (show Rep _ _ _ _ from Rep.val (by simpa [nr] using h4)), r4, r5, fun z => by cases z⟩
  rw [Bool.and_false] at this
  exact this
theorem se_lcEN (hi : SimF p true fi vi) (hg : SimO vs g w) (hc : SimT pc c vc) (hf : SimE pf true f vf) : SimE false true (fLc 100000 true vs fi g c f) (vLcE vs vi w vc vf fun ms => some (.lst ms)) := by
  have := SimR.bind (R2 := RE true) (p2 := false) (k := fun t en S1 => (noX (lcT 100000 g c f (wipeD en vs) t S1)).bind fun ds S2 => ofO (some (newL true ds S2))) (kv := fun ds e => match lcE w vc vf vs ds [] (e.clr vs) with
    | .ok ms e' => ofM (some (.lst ms)) (e'.clr2 vs)
    | _ => .no) hi fun ds t env en S As A he r nd => by
    cases hl : lcE w vc vf vs ds [] (env.clr vs) with
    | no => exact trivial
    | ex => exact trivial
    | ok out env' =>
      obtain ⟨S', dout, As', B', r1, r2, r3, r4, r5⟩ := lcE_key hg hc hf he r nd hl
      rw [r1]
      have q := new_at (p := false) (en := en) r2 r3 r4 r4 (fun n hn => .inl (by simp [hn]))
      obtain ⟨b, S2, As2, B2, q1, q2, q3, q4, q5, q6⟩ := q
      exact ⟨b, S2, As2, B2, q1, q2, q3, q4, r5.trans q5, fun z => by cases z⟩
  rw [Bool.and_false] at this
  exact this
end lc
end VF

namespace VF
open PySem L2 PF
variable [Tab]
section fns
/-! ### a def by its own body -/
def startV (n k : Nat) (ms : List M) : Env := ⟨ms.map some ++ List.replicate (k - n) none, []⟩
def runV (n k : Nat) (v : VS) : VN := fun ms => if ms.length = n then (match v (startV n k ms) with
  | .rt m e => .ok m (e.o.take n)
  | .nx e => .ok (.val .non) (e.o.take n)
  | .ex C e => .ex C (e.o.take n)
  | _ => .no) else .no
theorem slots_none {S : So} : ∀ n : Nat, SlotsR S (List.replicate n none) (List.replicate n none) (List.replicate n [])
  | 0 => ⟨rfl, rfl⟩
  | n + 1 => ⟨none, List.replicate n none, [], List.replicate n [], rfl, rfl, rfl, slots_none n⟩
theorem slots_start {S : So} (k : Nat) : ∀ {ms : List M} {ds : List D} {B : List Nat}, Reps S ms ds B → ∃ As, SlotsR S (ms.map some ++ List.replicate k none) (ds.map some ++ List.replicate k none) As ∧ As.flatten = B
  | [], ds, B, h => by
    unfold Reps at h
    obtain ⟨rfl, rfl⟩ := h
    refine ⟨List.replicate k [], slots_none k, ?_⟩
    rw [List.flatten_eq_nil_iff]
    intro l hl
    exact List.eq_of_mem_replicate hl
  | m :: ms, ds, B, h => by
    unfold Reps at h
    obtain ⟨d, r, B1, B2, rfl, h2, h3, rfl⟩ := h
    obtain ⟨As, h4, rfl⟩ := slots_start k h3
    exact ⟨B1 :: As, ⟨some d, _, B1, As, rfl, rfl, ⟨d, rfl, h2⟩, h4⟩, rfl⟩
theorem nsim_fn {q : Bool} {I : List Nat} {f : FS} {v : VS} {N : List Str} {n k : Nat} (h : SimS q I f v) (hk : N.length = k := by rfl) (hI : ∀ i ∈ I, i < n := by decide) : NSim q I (runF N f) (runV n k v) := ⟨fun ms ds S B r nd => by
  subst hk
  unfold runV
  by_cases hn : ms.length = n
  · rw [if_pos hn]
    have hd : ds.length = n := by rw [← r.length]; exact hn
    obtain ⟨As, h1, rfl⟩ := slots_start (N.length - n) r
    have he : EnvR S (startV n N.length ms) (startD N ds) As := ⟨by unfold startV startD; rw [hd]; exact h1, by intro t ht; cases ht⟩
    have q0 := h.run _ _ S As he nd
    have out : ∀ {S' : So} {e' : Env} {en' : En} {As' : List (List Nat)}, EnvR S' e' en' As' → Kp I (startD N ds) en' → OutR S' I ds (e'.o.take n) As' := fun {S' e' en' As'} g1 g2 j hj m hm => by
      have hjn := hI j hj
      rw [List.getElem?_take, if_pos hjn] at hm
      obtain ⟨d, A, z1, z2, z3⟩ := at_var g1 hm
      refine ⟨d, A, ?_, z2, z3⟩
      rw [g2 j hj] at z1
      unfold startD at z1
      rw [List.getElem?_append_left (by simpa [hd] using hjn), List.getElem?_map] at z1
      cases hx : ds[j]? with
      | none => rw [hx] at z1; cases z1
      | some y => rw [hx] at z1; simpa using z1
    cases hv : v (startV n N.length ms) with
    | no => exact trivial
    | bk e => exact trivial
    | ct e => exact trivial
    | nx e =>
      rw [hv] at q0
      obtain ⟨en', S', As', g1, g2, g3, g4, g5, g6⟩ := q0
      refine ⟨.non, S', As', [], by unfold runF; rw [g1], out g2 g5, Rep.val rfl, by simpa using g3, by simpa using g4, g6⟩
    | ex C e =>
      rw [hv] at q0
      obtain ⟨en', S', As', g1, g2, g3, g4, g5, g6⟩ := q0
      exact ⟨S', As', by unfold runF; rw [g1], out g2 g5, g3, g4, g6⟩
    | rt m e =>
      rw [hv] at q0
      obtain ⟨d, en', S', As', B, g1, g2, g3, g4, g5, g6, g7⟩ := q0
      exact ⟨d, S', As', B, by unfold runF; rw [g1], out g2 g6, g3, g4, g5, g7⟩
  · rw [if_neg hn]; exact trivial⟩
theorem run_len {n k : Nat} {v : VS} : ∀ ms : List M, ms.length ≠ n → runV n k v ms = .no := fun ms h => by unfold runV; rw [if_neg h]
/-- what is known in two ways -/
theorem NSim.sub {q : Bool} {I J : List Nat} {F : FN} {V : VN} (h : NSim q I F V) (k : ∀ i ∈ J, i ∈ I) : NSim q J F V := ⟨fun ms ds S B r nd => by
  have := h.run ms ds S B r nd
  cases hv : V ms with
  | no => exact trivial
  | ok m os =>
    rw [hv] at this
    obtain ⟨d, S', Bs, B', e1, e2, e3⟩ := this
    exact ⟨d, S', Bs, B', e1, fun j hj => e2 j (k j hj), e3⟩
  | ex C os =>
    rw [hv] at this
    obtain ⟨S', Bs, e1, e2, e3⟩ := this
    exact ⟨S', Bs, e1, fun j hj => e2 j (k j hj), e3⟩⟩
end fns
/-! ### errors -/
section errs
variable {I : List Nat} {p q q1 q2 x : Bool}
def vHandle (K : PySem.W.Frag) (C : Addr) : List (Addr × VS) → VS
  | [] => fun env => .ex C env
  | (C1, vs) :: r => fun env => match PySem.W.exmOne K (.ref C) (.ref C1) with
    | some true => vs env
    | some false => vHandle K C r env
    | none => .no
def vTry (K : PySem.W.Frag) (vb : VS) (hds : List (Addr × VS)) : VS := fun env => match vb env with
  | .ex C e1 => vHandle K C hds e1
  | o => o
inductive SimH (q : Bool) (I : List Nat) : List (Addr × FS) → List (Addr × VS) → Prop
  | nil : SimH q I [] []
  | cons {C : Addr} {f : FS} {v : VS} {l : List (Addr × FS)} {l' : List (Addr × VS)} (h : SimS q I f v) (t : SimH q I l l') : SimH q I ((C, f) :: l) ((C, v) :: l')
theorem ss_handle {K : PySem.W.Frag} {C : Addr} {l : List (Addr × FS)} {l' : List (Addr × VS)} (h : SimH q I l l') : SimS q I (handle K C l) (vHandle K C l') := by
  induction h with
  | nil => exact ⟨fun env en S As he nd => ⟨en, S, As, rfl, he, nd, Fr.refl, Kp.refl, Mo.refl⟩⟩
  | @cons C1 f v l l' h t ih =>
    refine ⟨fun env en S As he nd => ?_⟩
    unfold handle vHandle
    cases PySem.W.exmOne K (.ref C) (.ref C1) with
    | none => exact trivial
    | some b =>
      cases b with
      | true => exact h.run env en S As he nd
      | false => exact ih.run env en S As he nd
theorem ss_try {K : PySem.W.Frag} {fb : FS} {vb : VS} {l : List (Addr × FS)} {l' : List (Addr × VS)} (hb : SimS q1 I fb vb) (h : SimH q2 I l l') : SimS (q1 && q2) I (fTry K fb l) (vTry K vb l') := ⟨fun env en S As he nd => by
  have q0 := hb.run env en S As he nd
  have z1 : ∀ {b c : Bool}, (b && c) = true → b = true := fun z => by simp at z; exact z.1
  have z2 : ∀ {b c : Bool}, (b && c) = true → c = true := fun z => by simp at z; exact z.2
  unfold fTry vTry
  cases e : vb env with
  | ex C e1 =>
    rw [e] at q0
    obtain ⟨en', S', As', h1, h2, h3, h4, h5, h6⟩ := q0
    rw [h1]
    exact StP.later ((ss_handle h).run e1 en' S' As' h2 h3) h4 h5 h6 z1 z2
  | nx e1 => rw [e] at q0; have q' : StP (q1 && q2) _ _ _ _ _ (Vl.nx e1) := StP.imp q0 z1; obtain ⟨en', S', As', h1, _⟩ := q0; rw [h1] at q' ⊢; exact q'
  | bk e1 => rw [e] at q0; have q' : StP (q1 && q2) _ _ _ _ _ (Vl.bk e1) := StP.imp q0 z1; obtain ⟨en', S', As', h1, _⟩ := q0; rw [h1] at q' ⊢; exact q'
  | ct e1 => rw [e] at q0; have q' : StP (q1 && q2) _ _ _ _ _ (Vl.ct e1) := StP.imp q0 z1; obtain ⟨en', S', As', h1, _⟩ := q0; rw [h1] at q' ⊢; exact q'
  | rt m e1 => rw [e] at q0; have q' : StP (q1 && q2) _ _ _ _ _ (Vl.rt m e1) := StP.imp q0 z1; obtain ⟨d, en', S', As', B, h1, _⟩ := q0; rw [h1] at q' ⊢; exact q'
  | no => exact trivial⟩
/-- the suites of a try: nothing is raised in them -/
def quietV (v : VS) : VS := fun env => match v env with
  | .ex _ _ => .no
  | o => o
theorem ss_quiet {f : FS} {v : VS} (h : SimS q I f v) : SimS q I (quiet f) (quietV v) := ⟨fun env en S As he nd => by
  have q0 := h.run env en S As he nd
  unfold quiet quietV
  cases e : v env with
  | ex C e1 => exact trivial
  | nx e1 => rw [e] at q0; have q' := q0; obtain ⟨en', S', As', h1, _⟩ := q0; rw [h1] at q' ⊢; exact q'
  | bk e1 => rw [e] at q0; have q' := q0; obtain ⟨en', S', As', h1, _⟩ := q0; rw [h1] at q' ⊢; exact q'
  | ct e1 => rw [e] at q0; have q' := q0; obtain ⟨en', S', As', h1, _⟩ := q0; rw [h1] at q' ⊢; exact q'
  | rt m e1 => rw [e] at q0; have q' := q0; obtain ⟨d, en', S', As', B, h1, _⟩ := q0; rw [h1] at q' ⊢; exact q'
  | no => exact trivial⟩
/-- what is told of a call -/
def vTellX (K : PySem.W.Frag) (C : Addr) : List (Addr × D) → Env → Rv M
  | [], _ => .no
  | (C1, r) :: l, e => match PySem.W.exmOne K (.ref C) (.ref C1) with
    | some true => .ok (.val r) e
    | some false => vTellX K C l e
    | none => .no
def vTellR (K : PySem.W.Frag) (l : List (Addr × D)) (k : M → Env → Rv M) : Rv M → Rv M
  | .ok m e => k m e
  | .ex C e => vTellX K C l e
  | .no => .no
def vTell (K : PySem.W.Frag) (l : List (Addr × D)) (k : M → Env → Rv M) (vb : VE) : VE := fun env => vTellR K l k (vb env)
theorem tellX_at {K : PySem.W.Frag} {C : Addr} {S : So} {env : Env} {en : En} {As : List (List Nat)} (he : EnvR S env en As) (nd : Nd As.flatten) : ∀ {l : List (Addr × D)}, (∀ y ∈ l, nr y.2 = true) → SimAt (RE true) true S env en As.flatten (tellX K C l S) (vTellX K C l env)
  | [], h => trivial
  | (C1, r) :: l, h => by
    unfold tellX vTellX
    cases PySem.W.exmOne K (.ref C) (.ref C1) with
    | none => exact trivial
    | some b =>
      cases b with
      | true =>
        have := ok_dropG (R := RE true) (p := true) (B := []) (a := M.val r) (b := r) (en := en) he (by simpa using nd) (show Rep S _ _ _ from Rep.val (h (C1, r) (by simp)))
        rw [List.append_nil] at this
        exact this
      | false => exact tellX_at he nd fun y hy => h y (by simp [hy])
theorem se_tell {K : PySem.W.Frag} {l : List (Addr × D)} {fb : FE} {vb : VE} (h : SimE p true fb vb) (hl : ∀ y ∈ l, nr y.2 = true) : SimE p true (fTell K l (fun d S => .ok d S) fb) (vTell K l (fun m e => .ok m e) vb) := ⟨fun env en S As he nd => by
  have q0 := h.run env en S As he nd
  unfold fTell vTell
  cases e : vb env with
  | no => exact trivial
  | ok m e1 =>
    rw [e] at q0
    have q' := q0
    obtain ⟨b, S', As', B, h1, _⟩ := q0
    rw [h1] at q' ⊢
    exact q'
  | ex C e1 =>
    rw [e] at q0
    obtain ⟨S', As', h1, h2, h3, h4, h5⟩ := q0
    rw [h1]
    have t := tellX_at (K := K) (C := C) (en := en) h2 h3 hl
    show SimAt _ _ _ _ _ _ (tellX K C l S') (vTellX K C l e1)
    cases e2 : vTellX K C l e1 with
    | no => exact trivial
    | ex C' e3 =>
      rw [e2] at t
      obtain ⟨S2, As2, g1, g2, g3, g4, g5⟩ := t
      refine ⟨S2, As2, g1, g2, g3, h4.trans g4, fun z => ?_⟩
      obtain ⟨rfl, J, rfl⟩ := h5 z
      obtain ⟨rfl, J', rfl⟩ := g5 rfl
      exact ⟨rfl, J ++ J', by simp⟩
    | ok m e3 =>
      rw [e2] at t
      obtain ⟨b, S2, As2, B, g1, g2, g3, g4, g5, g6⟩ := t
      refine ⟨b, S2, As2, B, g1, g2, g3, g4, h4.trans g5, fun z => ?_⟩
      obtain ⟨rfl, J, rfl⟩ := h5 z
      obtain ⟨rfl, J', rfl⟩ := g6 rfl
      exact ⟨rfl, J ++ J', by simp⟩⟩
theorem se_tellC {K : PySem.W.Frag} {l : List (Addr × D)} {r : Bool} {fb : FE} {vb : VE} (h : SimE p x fb vb) (hl : ∀ y ∈ l, nr y.2 = true) : SimE p true (fTell K l (fun _ S => .ok (.bl r) S) fb) (vTell K l (fun _ e => .ok (.val (.bl r)) e) vb) := ⟨fun env en S As he nd => by
  have q0 := h.run env en S As he nd
  unfold fTell vTell
  cases e : vb env with
  | no => exact trivial
  | ok m e1 =>
    rw [e] at q0
    obtain ⟨b, S', As', B, h1, h2, h3, h4, h5, h6⟩ := q0
    rw [h1]
    exact ⟨.bl r, S', As', [], rfl, h2, (show Rep S' _ _ _ from Rep.val rfl), by simpa using h4.left, h5.sub (fun n hn => by simp at hn ⊢; exact .inl hn), h6⟩
  | ex C e1 =>
    rw [e] at q0
    obtain ⟨S', As', h1, h2, h3, h4, h5⟩ := q0
    rw [h1]
    have t := tellX_at (K := K) (C := C) (en := en) h2 h3 hl
    show SimAt _ _ _ _ _ _ (tellX K C l S') (vTellX K C l e1)
    cases e2 : vTellX K C l e1 with
    | no => exact trivial
    | ex C' e3 =>
      rw [e2] at t
      obtain ⟨S2, As2, g1, g2, g3, g4, g5⟩ := t
      refine ⟨S2, As2, g1, g2, g3, h4.trans g4, fun z => ?_⟩
      obtain ⟨rfl, J, rfl⟩ := h5 z
      obtain ⟨rfl, J', rfl⟩ := g5 rfl
      exact ⟨rfl, J ++ J', by simp⟩
    | ok m e3 =>
      rw [e2] at t
      obtain ⟨b, S2, As2, B, g1, g2, g3, g4, g5, g6⟩ := t
      refine ⟨b, S2, As2, B, g1, g2, g3, g4, h4.trans g5, fun z => ?_⟩
      obtain ⟨rfl, J, rfl⟩ := h5 z
      obtain ⟨rfl, J', rfl⟩ := g6 rfl
      exact ⟨rfl, J ++ J', by simp⟩⟩
end errs
end VF

namespace VF
open PySem L2 PF
variable [Tab]
section sub
variable {I : List Nat} {s p pa pb pc pd x xa xb xc xd : Bool} {fo fi fa fb fc fd : FE} {P : Pl} {vi va vb vc vd : VE}
/-- o[i] = v -/
def setAt (env : Env) (i : Nat) (p : List Stp) (k : Int) (m : M) : Option Env := match env.o[i]? with
  | some (some m0) => match m0.at p with
    | some (.lst ms) => match ixN ms.length k with
      | some j => some (env.up i (some (m0.wrs p (.lst (ms.set j m)))))
      | none => none
    | _ => none
  | _ => none
def tSub (P : Pl) (vi : VE) : VG := fun m env => match P env with
  | some (i, p) => match env.look i p with
    | some _ => match vi env with
      | .ok (.val (.int k)) e1 => setAt e1 i p k m
      | _ => none
    | none => none
  | none => none
theorem set_at {S : So} {env : Env} {en : En} {As : List (List Nat)} {i : Nat} {p : List Stp} {d0 d dv : D} {m : M} {B : List Nat} {k : Int} {e' : Env} (he : EnvR S env en As) (h0 : en[i]? = some (some d0)) (hp : PathR S p d0 d) (r : Rep S m dv B) (nd : Nd (As.flatten ++ B)) (h : setAt env i p k m = some e') :
    ∃ S' As', gSet d (.int k) dv S = some S' ∧ EnvR S' e' en As' ∧ Nd As'.flatten ∧ Fr S (As.flatten ++ B) S' As'.flatten := by
  unfold setAt at h
  split at h
  · rename_i m0 hm0
    split at h
    · rename_i ms hms
      split at h
      · rename_i j hj
        cases h
        obtain ⟨d0', A, g1, g2, g3⟩ := at_var he hm0
        rw [h0] at g1; cases g1
        obtain ⟨e, A1, A', A2, k1, rfl, k3, k4⟩ := at_rep g3 hms
        have := hp.det k1
        subst this
        obtain ⟨n, ds, Bl, rfl, w1, w2, rfl⟩ := rep_lst k3
        have hjl : j < ms.length := by
          have := hj
          unfold ixN at this
          split at this
          · split at this <;> cases this; omega
          · split at this <;> cases this; omega
        obtain ⟨dj, B1, Bj, B2, c1, rfl, c3, c4⟩ := Reps.at w2 (List.getElem?_eq_getElem hjl)
        have hcnt : ∀ a, (As.set i []).flatten.count a + (A1 ++ (n :: (B1 ++ Bj ++ B2)) ++ A2).count a = As.flatten.count a := fun a => by
          have := count_set As i _ [] a g2
          simpa using this
        have hndn : ∀ a, a ∈ As.flatten ++ B → True := fun _ _ => trivial
        have ndAll : Nd (n :: ((As.set i []).flatten ++ (A1 ++ A2 ++ (B1 ++ Bj ++ B2) ++ B))) := nd.le fun a => by
          have := hcnt a
          simp only [List.count_append, List.count_cons] at this ⊢
          omega
        have hnn := mem_nd ndAll
        have hnl : n < S.length := (List.getElem?_eq_some_iff.mp w1).1
        have fr : ∀ q, q ≠ n → (S.set n (.lst (ds.set j dv)))[q]? = S[q]? := fun q hq => List.getElem?_set_ne (fun z => hq z.symm)
        have ne : ∀ q, q ∈ (As.set i []).flatten ++ (A1 ++ A2 ++ (B1 ++ Bj ++ B2) ++ B) → q ≠ n := fun q hq z => hnn (z ▸ hq)
        have rep1 : Rep (S.set n (.lst (ds.set j dv))) (.lst (ms.set j m)) (.ref n) (n :: (B1 ++ B ++ B2)) := by
          unfold Rep
          refine ⟨n, ds.set j dv, B1 ++ B ++ B2, rfl, by rw [List.getElem?_set_self hnl], ?_, rfl⟩
          exact c4 _ m dv B (fun q hq => fr q (ne q (by simp only [List.mem_append] at hq ⊢; rcases hq with hq | hq <;> simp [hq]))) (r.frame fun q hq => fr q (ne q (by simp [hq])))
        have rep2 := k4 (S.set n (.lst (ds.set j dv))) (.lst (ms.set j m)) _ (fun q hq => fr q (ne q (by simp only [List.mem_append] at hq ⊢; rcases hq with hq | hq <;> simp [hq]))) rep1
        refine ⟨S.set n (.lst (ds.set j dv)), (As.set i []).set i (A1 ++ (n :: (B1 ++ B ++ B2)) ++ A2), ?_, ?_, ?_, ?_⟩
        · simp only [gSet, atL_ref w1]
          rw [← w2.length, hj]
        · have he0 : EnvR S (env.up i none) en (As.set i []) := he.up i h0 (show SlotR S none (some d0) [] from rfl)
          have he1 : EnvR (S.set n (.lst (ds.set j dv))) (env.up i none) en (As.set i []) := he0.frame fun q hq => fr q (ne q (by simp only [List.mem_append]; exact .inl hq))
          have he2 := he1.up i h0 (slot_some rep2)
          have ee : (env.up i none).up i (some (m0.wrs p (.lst (ms.set j m)))) = env.up i (some (m0.wrs p (.lst (ms.set j m)))) := by
            unfold Env.up Env.kill
            simp [List.set_set, List.filter_filter]
          rw [ee] at he2
          exact he2
        · exact ndAll.le fun a => by
            have h1 := count_set_le (As.set i []) i (A1 ++ (n :: (B1 ++ B ++ B2)) ++ A2) a
            simp only [List.count_append, List.count_cons] at h1 ⊢
            omega
        · refine ⟨by simp, fun q hl hq => fr q (fun z => hq ?_), fun q hq => .inl ?_⟩
          · subst z
            simp only [List.mem_append]
            exact .inl (List.mem_flatten.mpr ⟨_, List.mem_of_getElem? g2, by simp⟩)
          · have hA : ∀ q ∈ A1 ++ (n :: (B1 ++ Bj ++ B2)) ++ A2, q ∈ As.flatten := fun q hq => List.mem_flatten.mpr ⟨_, List.mem_of_getElem? g2, hq⟩
            rcases mem_set_flat hq with q1 | q1
            · exact List.mem_append.mpr (.inl ((mem_set_flat q1).elim id (by intro z; cases z)))
            · simp only [List.mem_append, List.mem_cons] at q1 ⊢
              rcases q1 with (q1 | q1 | (q1 | q1) | q1) | q1
              · exact .inl (hA q (by simp [q1]))
              · exact .inl (hA q (by simp [q1]))
              · exact .inl (hA q (by simp [q1]))
              · exact .inr q1
              · exact .inl (hA q (by simp [q1]))
              · exact .inl (hA q (by simp [q1]))
      · cases h
    · cases h
  · cases h
theorem sg_sub (hp : SimP s fo P) (hi : SimE pb x fi vi) (hx : (s || pb) = true := by rfl) : SimG false I (gtSub fo fi) (tSub P vi) := ⟨fun m dv B env en S As he r nd => by
  unfold tSub
  cases hP : P env with
  | none => exact trivial
  | some q =>
    obtain ⟨i, p⟩ := q
    dsimp only
    cases hl : env.look i p with
    | none => exact trivial
    | some y =>
      obtain ⟨J, d0, d, h1, h2, h3⟩ := hp.run env en S As i p y he nd.left hP hl
      dsimp only
      have q0 := SimAt.hold (R1 := RE true) (stab_rep pb) inl_re (a := m) (b := dv) (hi.run env en (S ++ J) As he.more nd.left) (show Rep _ _ _ _ from r.more (J := J)) nd
      cases hv : vi env with
      | no => exact trivial
      | ex => exact trivial
      | ok ki e1 =>
        rw [hv] at q0
        cases ki with
        | val kd =>
          cases kd with
          | int k =>
            obtain ⟨ik, S2, As2, B2, c1, c2, ⟨Ba, Bb, rfl, c3, c3'⟩, c4, c5, c6⟩ := q0
            have hk : ik = .int k := vwd_eq (re_val c3') (by simp)
            subst hk
            dsimp only
            cases hs : setAt e1 i p k m with
            | none => exact trivial
            | some e' =>
              have hp2 : PathR S2 p d0 d := by
                cases s with
                | true => rw [hp.nm rfl env i p hP] at h3 ⊢; exact h3
                | false =>
                  simp at hx
                  obtain ⟨_, J', rfl⟩ := c6 hx
                  exact h3.more.more
              obtain ⟨S', As', w1, w2, w3, w4⟩ := set_at c2 h2 hp2 c3 (c4.le fun a => by simp only [List.count_append]; omega) hs
              refine ⟨en, S', As', ?_, w2, w3, ?_, Kp.refl, Mo.no⟩
              · simp only [gtSub, h1, c1, w1]
              · have f1 : Fr S (As.flatten ++ B) (S ++ J) (As.flatten ++ B) := Fr.more
                exact (f1.trans (c5.sub fun n hn => by simp only [List.mem_append] at hn ⊢; rcases hn with hn | hn <;> simp [hn])).trans w4
          | _ => exact trivial
        | _ => exact trivial⟩
/-! ### slices, signs -/
def RO : So → Option Int → Option Int → List Nat → Prop := fun _ a b B => b = a ∧ B = []
abbrev VO := Env → Rv (Option Int)
abbrev SimQ (p : Bool) (f : FO) (v : VO) : Prop := SimR RO p f v
def vNoPart : VO := fun e => .ok none e
def asIm {α : Type} (m : M) (k : Int → Rv α) : Rv α := match m with
  | .val (.int i) => k i
  | _ => .no
def vPart (v : VE) : VO := fun env => (v env).bind fun m e => asIm m fun i => .ok (some i) e
theorem sq_none : SimQ true fNoPart vNoPart := ⟨fun env en S As he nd => by
  have := ok_dropG (R := RO) (p := true) (B := []) (a := none) (b := none) (en := en) he (by simpa using nd) ⟨rfl, rfl⟩
  rw [List.append_nil] at this
  exact this⟩
theorem at_int {α β : Type} {R : So → α → β → List Nat → Prop} {S : So} {env : Env} {en : En} {A : List Nat} {r : Rs β} {a : M} {k : Int → Rv α} (h : ∀ i, a = .val (.int i) → SimAt R p S env en A r (k i)) : SimAt R p S env en A r (asIm a k) := by
  cases a with
  | val d => cases d <;> first | exact trivial | exact h _ rfl
  | _ => exact trivial
theorem sq_some (h : SimE pa xa fa va) : SimQ pa (fPart fa) (vPart va) := by
  have := SimR.bind (R2 := RO) (p2 := true) (k := fun d en S1 => match d with
    | .int i => .ok (some i) S1
    | _ => .no) (kv := fun m e => asIm m fun i => .ok (some i) e) h fun a d env en S As B he r nd => by
    refine at_int fun i ha => ?_
    subst ha
    have : d = .int i := vwd_eq r.vw (by simp)
    subst this
    exact ok_dropG he nd ⟨rfl, rfl⟩
  rw [Bool.and_true] at this
  exact this
theorem stab_ro {p : Bool} : Stab RO p := fun S S' m d B r f _ => r
theorem inl_ro : InL RO := fun S m d B r n hn => by rw [r.2] at hn; cases hn
def liftS (a : M) (lo hi : Option Int) : Option M := match a with
  | .val y => (gSl false y lo hi []).map fun r => .val r.1
  | _ => none
def vSl (va : VE) (vl vh : VO) : VE := fun env => (va env).bind fun a e1 => (vl e1).bind fun lo e2 => (vh e2).bind fun hi e3 => ofM (liftS a lo hi) e3
theorem nrs_cut {xs : List D} {lo hi : Option Int} (h : nrs xs = true) : nrs (cutD xs lo hi) = true := nrs_sub h fun d hd => List.mem_of_mem_drop (List.mem_of_mem_take hd)
theorem sl_run {S : So} {a m : M} {d : D} {lo hi : Option Int} (ra : Vw S a d) (h : liftS a lo hi = some m) : ∃ r, m = .val r ∧ gSl false d lo hi S = some (r, S) ∧ nr r = true ∧ ∀ ds, r = .lst ds → gSl true d lo hi S = some (.ref S.length, S ++ [.lst ds]) := by
  cases a with
  | val y =>
    have hv : VwD S y d := ra
    have lx := ls_vw hv
    have hn := nr_vw hv
    simp only [liftS] at h
    cases hq : gSl false y lo hi [] with
    | none => rw [hq] at h; cases h
    | some r =>
      rw [hq] at h
      obtain ⟨r, T⟩ := r
      simp only [Option.map_some, Option.some.injEq] at h
      subst h
      refine ⟨r, rfl, ?_⟩
      cases y with
      | str z =>
        have := vwd_eq hv (by simp)
        subst this
        simp only [gSl] at hq ⊢
        split at hq
        · rename_i hc
          simp only [if_pos hc, Option.some.injEq, Prod.mk.injEq] at hq ⊢
          obtain ⟨rfl, _⟩ := hq
          exact ⟨⟨rfl, trivial⟩, rfl, by simp⟩
        · cases hq
      | tup xs =>
        have := vwd_eq hv (by simp)
        subst this
        simp only [gSl, Option.some.injEq, Prod.mk.injEq] at hq ⊢
        obtain ⟨rfl, _⟩ := hq
        exact ⟨⟨rfl, trivial⟩, by simp only [nr] at hn ⊢; exact nrs_cut hn, by simp⟩
      | scr ns =>
        have := vwd_eq hv (by simp)
        subst this
        simp only [gSl, newL_f, newL_t, Option.some.injEq, Prod.mk.injEq] at hq ⊢
        obtain ⟨rfl, _⟩ := hq
        exact ⟨⟨rfl, trivial⟩, by simp only [nr]; exact nrs_cut (nrs_ints _), by simp⟩
      | lst xs =>
        simp only [gSl, lsOf, newL_f, Option.some.injEq, Prod.mk.injEq] at hq
        obtain ⟨rfl, _⟩ := hq
        have lx' : lsOf S d = some xs := lx
        refine ⟨?_, by simp only [nr] at hn ⊢; exact nrs_cut hn, fun ds hds => ?_⟩
        · rcases hv with ⟨rfl, _⟩ | ⟨ds, n, e1, rfl, h3, _⟩
          · rfl
          · simp only [gSl, lx', newL_f]
        · cases hds
          rcases hv with ⟨rfl, _⟩ | ⟨ds, n, e1, rfl, h3, _⟩
          · simp [gSl, lsOf]
          · simp only [gSl, lx', newL_t]
      | non => simp [gSl, lsOf] at hq
      | bl _ => simp [gSl, lsOf] at hq
      | int _ => simp [gSl, lsOf] at hq
      | ref _ => simp [gSl, lsOf] at hq
  | _ => simp [liftS] at h
theorem sl_gen {mu : Bool} {fl fh : FO} {vl vh : VO} {kv : M → Option Int → Option Int → Option M} (ha : SimE pa xa fa va) (hl : SimQ pb fl vl) (hh : SimQ pc fh vh) (hx : (xa || (pb && pc)) = true)
    (fin : ∀ {a m : M} {d : D} {lo hi : Option Int} {S : So} {env : Env} {en : En} {As : List (List Nat)} {B : List Nat}, EnvR S env en As → Nd (As.flatten ++ B) → Vw S a d → kv a lo hi = some m → SimAt (RE true) true S env en (As.flatten ++ B) (ofO (gSl mu d lo hi S)) (.ok m env)) :
    SimE (pa && (pb && pc)) true (fSl mu fa fl fh) (fun env => (va env).bind fun a e1 => (vl e1).bind fun lo e2 => (vh e2).bind fun hi e3 => ofM (kv a lo hi) e3) :=
  SimR.bind ha fun a d env en S As B he r nd => by
    have hx1 : (xa || pb) = true := by cases xa <;> simp at hx ⊢; exact hx.1
    have hx2 : (xa || pc) = true := by cases xa <;> simp at hx ⊢; exact hx.2
    refine SimAt.map (p2 := pc) (R2 := RE true) (SimR.hold hl (stab_re hx1) inl_re he r nd) (k := fun lo S2 => (fh en S2).bind fun hi S3 => ofO (gSl mu d lo hi S3)) (kv := fun lo e2 => (vh e2).bind fun hi e3 => ofM (kv a lo hi) e3) fun lo lo' env1 S1 As1 B1 he1 r1 nd1 => ?_
    obtain ⟨B2, B3, rfl, r2, rfl, rfl⟩ := r1
    rw [List.append_nil] at nd1 ⊢
    have q := SimAt.map (p2 := true) (R2 := RE true) (SimR.hold hh (stab_re hx2) inl_re he1 r2 nd1) (k := fun hi S3 => ofO (gSl mu d lo' hi S3)) (kv := fun hi e3 => ofM (kv a lo' hi) e3) fun hi hi' env2 S2 As2 B4 he2 r3 nd2 => by
      obtain ⟨B5, B6, rfl, r4, rfl, rfl⟩ := r3
      cases hk : kv a lo' hi' with
      | none => exact trivial
      | some m => exact fin he2 nd2 r4.vw hk
    rw [Bool.and_true] at q
    exact q
theorem se_sl {fl fh : FO} {vl vh : VO} (ha : SimE pa xa fa va) (hl : SimQ pb fl vl) (hh : SimQ pc fh vh) (hx : (xa || (pb && pc)) = true := by rfl) : SimE (pa && (pb && pc)) true (fSl false fa fl fh) (vSl va vl vh) :=
  sl_gen ha hl hh hx fun he nd ra hk => by
    obtain ⟨r, rfl, h1, h2, _⟩ := sl_run ra hk
    rw [h1]
    exact ok_dropG he nd (show Rep _ _ _ _ from Rep.val h2)
def vSlN (va : VE) (vl vh : VO) : VE := fun env => (va env).bind fun a e1 => (vl e1).bind fun lo e2 => (vh e2).bind fun hi e3 => ofM ((liftS a lo hi).bind ownM) e3
theorem se_slN {fl fh : FO} {vl vh : VO} (ha : SimE pa xa fa va) (hl : SimQ pb fl vl) (hh : SimQ pc fh vh) (hx : (xa || (pb && pc)) = true := by rfl) : SimE (pa && (pb && pc)) true (fSl true fa fl fh) (vSlN va vl vh) :=
  sl_gen (kv := fun a lo hi => (liftS a lo hi).bind ownM) ha hl hh hx fun {a m d lo hi S env en As B} he nd ra hk => by
    cases hl : liftS a lo hi with
    | none => rw [hl] at hk; cases hk
    | some y =>
      rw [hl] at hk
      obtain ⟨r, rfl, h1, h2, h3⟩ := sl_run ra hl
      simp only [Option.bind_some] at hk
      unfold ownM at hk
      split at hk
      · rename_i ds heq
        cases heq; cases hk
        rw [h3 ds rfl]
        exact new_at he (Reps.vals (by simpa [nr] using h2)) nd (by simpa using nd.left) (by simp)
      · cases hk
def vNeg (v : VE) : VE := fun env => (v env).bind fun m e => asIm m fun i => .ok (.val (.int (-i))) e
theorem se_neg (h : SimE pa xa fa va) : SimE pa true (fNeg fa) (vNeg va) := by
  have := SimR.bind (R2 := RE true) (p2 := true) (k := fun d en S1 => match d with
    | .int i => .ok (.int (-i)) S1
    | _ => .no) (kv := fun m e => asIm m fun i => .ok (.val (.int (-i))) e) h fun a d env en S As B he r nd => by
    refine at_int fun i ha => ?_
    subst ha
    have : d = .int i := vwd_eq r.vw (by simp)
    subst this
    exact ok_dropG he nd (show Rep _ _ _ _ from Rep.val rfl)
  rw [Bool.and_true] at this
  exact this
def isiM (T : String) (m : M) : Option M := match m with
  | .val d => match tyN [] d with
    | some t => (kitB t T).map fun b => .val (.bl b)
    | none => none
  | _ => none
def vIsi (T : String) (v : VE) : VE := fun env => (v env).bind fun m e => ofM (isiM T m) e
theorem se_isi {T : String} (h : SimE pa xa fa va) : SimE pa true (fIsi T fa) (vIsi T va) := by
  have := SimR.bind (R2 := RE true) (p2 := true) (k := fun d en S1 => match tyN S1 d with
    | some t => match kitB t T with
      | some b => .ok (.bl b) S1
      | none => .no
    | none => .no) (kv := fun m e => ofM (isiM T m) e) h fun a d env en S As B he r nd => by
    cases a with
    | val y =>
      have hv : VwD S y d := r.vw
      rw [ty_vw hv]
      simp only [isiM]
      cases tyN [] y with
      | none => exact trivial
      | some t =>
        dsimp only
        cases kitB t T with
        | none => exact trivial
        | some b => exact ok_dropG he nd (show Rep _ _ _ _ from Rep.val rfl)
    | _ => exact trivial
  rw [Bool.and_true] at this
  exact this
/-- list(range(n)), tuple(range(n)) -/
def rgOk1 (n : Int) : Bool := decide (n ≤ 1000000) && decide (-1000000000 ≤ n)
theorem rgOk1_ok {n : Int} (h : rgOk1 n = true) : okRg 0 n = true := by
  simp only [rgOk1, Bool.and_eq_true, decide_eq_true_eq] at h
  simp only [okRg, Bool.and_eq_true, decide_eq_true_eq]
  refine ⟨⟨⟨⟨by omega, by omega⟩, by omega⟩, by omega⟩, by omega⟩
def vRgW (k : List D → M) (v : VE) : VE := fun env => (v env).bind fun m e => asIm m fun n => if rgOk1 n = true then .ok (k (rgD 0 n.toNat)) e else .no
theorem se_tupRg (h : SimE pa xa fa va) : SimE pa true (fTupRg1 fa) (vRgW (fun ds => .val (.tup ds)) va) := by
  have := SimR.bind (R2 := RE true) (p2 := true) (k := fun d en S1 => match d with
    | .int n => if okRg 0 n = true then .ok (.tup (rgD 0 (n - 0).toNat)) S1 else .no
    | _ => .no) (kv := fun m e => asIm m fun n => if rgOk1 n = true then .ok (.val (.tup (rgD 0 n.toNat))) e else .no) h fun a d env en S As B he r nd => by
    refine at_int fun n ha => at_if fun hn => ?_
    subst ha
    have : d = .int n := vwd_eq r.vw (by simp)
    subst this
    simp only [rgOk1_ok hn, if_true, Int.sub_zero]
    exact ok_dropG he nd (show Rep _ _ _ _ from Rep.val (by simp only [nr]; exact nrs_rg _ _))
  rw [Bool.and_true] at this
  exact this
theorem se_lstRg (h : SimE pa xa fa va) : SimE pa true (fLstRg1 false fa) (vRgW (fun ds => .val (.lst ds)) va) := by
  have := SimR.bind (R2 := RE true) (p2 := true) (k := fun d en S1 => match d with
    | .int n => if okRg 0 n = true then ofO (some (newL false (rgD 0 (n - 0).toNat) S1)) else .no
    | _ => .no) (kv := fun m e => asIm m fun n => if rgOk1 n = true then .ok (.val (.lst (rgD 0 n.toNat))) e else .no) h fun a d env en S As B he r nd => by
    refine at_int fun n ha => at_if fun hn => ?_
    subst ha
    have : d = .int n := vwd_eq r.vw (by simp)
    subst this
    simp only [rgOk1_ok hn, if_true, Int.sub_zero]
    exact ok_dropG he nd (show Rep _ _ _ _ from Rep.val (by simp only [nr]; exact nrs_rg _ _))
  rw [Bool.and_true] at this
  exact this
theorem se_lstRgN (h : SimE pa xa fa va) : SimE pa true (fLstRg1 true fa) (vRgW (fun ds => .lst (ds.map M.val)) va) := by
  have := SimR.bind (R2 := RE true) (p2 := true) (k := fun d en S1 => match d with
    | .int n => if okRg 0 n = true then ofO (some (newL true (rgD 0 (n - 0).toNat) S1)) else .no
    | _ => .no) (kv := fun m e => asIm m fun n => if rgOk1 n = true then .ok (.lst ((rgD 0 n.toNat).map M.val)) e else .no) h fun a d env en S As B he r nd => by
    refine at_int fun n ha => at_if fun hn => ?_
    subst ha
    have : d = .int n := vwd_eq r.vw (by simp)
    subst this
    simp only [rgOk1_ok hn, if_true, Int.sub_zero]
    exact new_at he (Reps.vals (nrs_rg _ _)) nd (by simpa using nd.left) (by simp)
  rw [Bool.and_true] at this
  exact this
theorem se_chain3 {g g' g'' : G2} (hg : OpV g) (hg' : OpV g') (hg'' : OpV g'') (ha : SimE pa xa fa va) (hb : SimE pb xb fb vb) (hc : SimE pc xc fc vc) (hd : SimE pd xd fd vd) (hx : (xa || pb) = true := by rfl) (hy : (xb || pc) = true := by rfl) (hz : (xc || pd) = true := by rfl) : SimE (pa && (pb && (pc && pd))) true (fChain3 g g' g'' fa fb fc fd) (vChain3 g g' g'' va vb vc vd) :=
  SimR.bind ha fun a y env en S As B he r nd => by
    refine SimAt.map (p2 := pc && pd) (R2 := RE true) (SimR.hold hb (stab_re hx) inl_re he r nd) (kv := fun b e2 => (ofM (liftG g a b) e2).bind fun z e3 => asBm z fun k => if k = true then (vc e3).bind fun c e4 => (ofM (liftG g' b c) e4).bind fun z e5 => asBm z fun k => if k = true then (vd e5).bind fun d e6 => ofM (liftG g'' c d) e6 else .ok (.val (.bl false)) e5 else .ok (.val (.bl false)) e3) fun b yb env1 S1 As1 B1 he1 r1 nd1 => ?_
    obtain ⟨B2, B3, rfl, r2, r3⟩ := r1
    cases hk : liftG g a b with
    | none => exact trivial
    | some m =>
      obtain ⟨r, rfl, e1, e2⟩ := lift_run hg r2.vw r3.vw hk
      rw [e1]
      refine at_bl fun k hkk => ?_
      cases hkk
      cases k with
      | false => exact ok_dropG he1 nd1 (re_bl true false)
      | true =>
        have nd2 : Nd (As1.flatten ++ B3) := nd1.le fun a => by simp only [List.count_append]; omega
        have q := SimAt.map (p2 := pd) (R2 := RE true) (SimR.hold hc (stab_re hy) inl_re he1 r3 nd2) (k := fun w S4 => (ofO (g' yb w S4)).bind fun z S5 => match z with
          | .bl k => if k = true then (fd en S5).bind fun w2 S6 => ofO (g'' w w2 S6) else .ok (.bl false) S5
          | _ => .no) (kv := fun c e4 => (ofM (liftG g' b c) e4).bind fun z e5 => asBm z fun k => if k = true then (vd e5).bind fun d e6 => ofM (liftG g'' c d) e6 else .ok (.val (.bl false)) e5) fun c yc env2 S2 As2 B4 he2 r4 nd4 => by
          obtain ⟨B5, B6, rfl, r5, r6⟩ := r4
          cases hk2 : liftG g' b c with
          | none => exact trivial
          | some m2 =>
            obtain ⟨r', rfl, e3, e4⟩ := lift_run hg' r5.vw r6.vw hk2
            rw [e3]
            refine at_bl fun k2 hkk2 => ?_
            cases hkk2
            cases k2 with
            | false => exact ok_dropG he2 nd4 (re_bl true false)
            | true =>
              have nd5 : Nd (As2.flatten ++ B6) := nd4.le fun a => by simp only [List.count_append]; omega
              exact (last_cmp hg'' hd hz he2 r6 nd5).wide fun n hn => by simp only [List.mem_append] at hn ⊢; rcases hn with hn | hn <;> simp [hn]
        exact q.wide fun n hn => by simp only [List.mem_append] at hn ⊢; rcases hn with hn | hn <;> simp [hn]
end sub
end VF

namespace VF
open PySem L2 PF
variable [Tab]
def vYes : VT := fun e => .ok true e
theorem st_yes : SimT true fYes vYes := sim_b true
section owned
variable {I : List Nat} {p q1 q2 : Bool} {f : FS} {v : VS} {fe : FE} {ve : VE}
/-- over a new list whose items are handed over -/
def forO (g : VG) (b : VS) : List M → VS
  | [] => fun env => .nx env
  | m :: ms => fun env => match g m env with
    | none => .no
    | some e1 => turnV (b e1) (forO g b ms)
def vForO (ve : VE) (g : VG) (b : VS) : VS := fun env => vthen (ve env) fun m e => match m with
  | .lst ms => if ms.length < 100000 then forO g b ms e else .no
  | _ => .no
theorem ss_forOr {gt : FG} {wt : VG} (hg : SimG q1 I gt wt) (hb : SimS q2 I f v) (n : Nat) (all : List D) : ∀ (k i : Nat) (ms : List M) (env : Env) (en : En) (S : So) (As : List (List Nat)) (B : List Nat), all.length - i < k → EnvR S env en As → S[n]? = some (.lst all) → Reps S ms (all.drop i) B → Nd (As.flatten ++ (n :: B)) → StP false I S en (As.flatten ++ (n :: B)) (forR gt f n k i en S) (forO wt v ms env)
  | 0, i, ms, env, en, S, As, B, hk, he, hS, hr, nd => by omega
  | k + 1, i, ms, env, en, S, As, B, hk, he, hS, hr, nd => by
    rw [forR_turn gt f n k i en S hS]
    cases ms with
    | nil =>
      unfold Reps at hr
      have hl : all.length ≤ i := List.drop_eq_nil_iff.mp hr.1
      rw [List.getElem?_eq_none hl]
      exact ⟨en, S, As, rfl, he, nd.left, Fr.refl.sub (fun n hn => by simp [hn]), Kp.refl, Mo.no⟩
    | cons m ms =>
      unfold Reps at hr
      obtain ⟨d, r, B1, B2, hd, h1, h2, rfl⟩ := hr
      have hi : i < all.length := by
        rcases Nat.lt_or_ge i all.length with h | h
        · exact h
        · rw [List.drop_of_length_le h] at hd; cases hd
      rw [List.drop_eq_getElem_cons hi] at hd
      simp only [List.cons.injEq] at hd
      obtain ⟨rfl, rfl⟩ := hd
      rw [List.getElem?_eq_getElem hi]
      have q := hg.run m all[i] B1 env en S As he h1 (nd.le fun a => by simp only [List.count_append, List.count_cons]; omega)
      unfold forO
      dsimp only
      cases e : wt m env with
      | none => exact trivial
      | some e1 =>
        rw [e] at q
        obtain ⟨en', S', As', w1, w2, w3, w4, w5, w6⟩ := q
        rw [w1]
        dsimp only
        have hSl := (List.getElem?_eq_some_iff.mp hS).1
        -- what is held stands as it was
        have held : ∀ x ∈ n :: B2, x < S.length ∧ x ∉ As.flatten ++ B1 := fun x hx => ⟨by
          rcases List.mem_cons.mp hx with rfl | hx
          · exact hSl
          · exact h2.lt x hx, fun z => by
          have hh : Nd ((As.flatten ++ B1) ++ (n :: B2)) := nd.le fun a => by simp only [List.count_append, List.count_cons]; omega
          exact hh.not z hx⟩
        have s1 : ∀ x ∈ n :: B2, S'[x]? = S[x]? := fun x hx => w4.same x (held x hx).1 (held x hx).2
        have held' : ∀ x ∈ n :: B2, x < S'.length ∧ x ∉ As'.flatten := fun x hx => ⟨Nat.lt_of_lt_of_le (held x hx).1 w4.len, fun z => (w4.new x z).elim (held x hx).2 (by have := (held x hx).1; omega)⟩
        have ndh : Nd (n :: B2) := nd.le fun a => by simp only [List.count_append, List.count_cons]; omega
        have fr0 : Fr S (As.flatten ++ (n :: (B1 ++ B2))) S' (As'.flatten ++ (n :: B2)) := ⟨w4.len, fun x hl hx => w4.same x hl (fun z => hx (by simp only [List.mem_append, List.mem_cons] at z ⊢; rcases z with z | z <;> simp [z])), fun x hx => by
          rcases List.mem_append.mp hx with hx | hx
          · exact (w4.new x hx).imp (fun z => by simp only [List.mem_append, List.mem_cons] at z ⊢; rcases z with z | z <;> simp [z]) id
          · exact .inl (by simp only [List.mem_append, List.mem_cons] at hx ⊢; rcases hx with hx | hx <;> simp [hx])⟩
        have bd := hb.run e1 en' S' As' w2 w3
        have wide : ∀ {r : Fl} {rv : Vl}, StP q2 I S' en' As'.flatten r rv → StP false I S en (As.flatten ++ (n :: (B1 ++ B2))) r rv := fun h => StP.later (q1 := false) (h.wide (A' := As'.flatten ++ (n :: B2)) fun x hx => by simp [hx]) fr0 w5 Mo.no (fun z => by cases z) (fun z => by cases z)
        have again : ∀ {e2 : Env} {en2 : En} {S2 : So} {As2 : List (List Nat)}, EnvR S2 e2 en2 As2 → Nd As2.flatten → Fr S' As'.flatten S2 As2.flatten → Kp I en' en2 → StP false I S en (As.flatten ++ (n :: (B1 ++ B2))) (forR gt f n k (i + 1) en2 S2) (forO wt v ms e2) := fun {e2 en2 S2 As2} g1 g2 g3 g4 => by
          have s2 : ∀ x ∈ n :: B2, S2[x]? = S[x]? := fun x hx => by rw [g3.same x (held' x hx).1 (held' x hx).2]; exact s1 x hx
          have nd2 : Nd (As2.flatten ++ (n :: B2)) := g2.app ndh fun x hx z => (g3.new x hx).elim (held' x z).2 (by have := (held' x z).1; omega)
          have ih := ss_forOr hg hb n all k (i + 1) ms e2 en2 S2 As2 B2 (by omega) g1 (by rw [s2 n (by simp)]; exact hS) (h2.frame fun x hx => s2 x (by simp [hx])) nd2
          refine StP.later (q1 := false) ih (fr0.trans ⟨g3.len, fun x hl hx => g3.same x hl (fun z => hx (by simp [z])), fun x hx => ?_⟩) (w5.trans g4) Mo.no (fun z => by cases z) (fun z => by cases z)
          rcases List.mem_append.mp hx with hx | hx
          · exact (g3.new x hx).imp (fun z => by simp [z]) id
          · exact .inl (by simp only [List.mem_append]; exact .inr hx)
        cases ev : v e1 with
        | no => exact trivial
        | nx e2 =>
          rw [ev] at bd
          obtain ⟨en2, S2, As2, b1, b2, b3, b4, b5, b6⟩ := bd
          rw [b1]
          exact again b2 b3 b4 b5
        | ct e2 =>
          rw [ev] at bd
          obtain ⟨en2, S2, As2, b1, b2, b3, b4, b5, b6⟩ := bd
          rw [b1]
          exact again b2 b3 b4 b5
        | bk e2 =>
          rw [ev] at bd
          obtain ⟨en2, S2, As2, b1, b2, b3, b4, b5, b6⟩ := bd
          rw [b1]
          exact wide (rv := .nx e2) ⟨en2, S2, As2, rfl, b2, b3, b4, b5, b6⟩
        | ex C e2 =>
          rw [ev] at bd
          obtain ⟨en2, S2, As2, b1, b2, b3, b4, b5, b6⟩ := bd
          rw [b1]
          exact wide (rv := .ex C e2) ⟨en2, S2, As2, rfl, b2, b3, b4, b5, b6⟩
        | rt mm e2 =>
          rw [ev] at bd
          obtain ⟨dd, en2, S2, As2, Br, b1, b2, b3, b4, b5, b6, b7⟩ := bd
          rw [b1]
          exact wide (rv := .rt mm e2) ⟨dd, en2, S2, As2, Br, rfl, b2, b3, b4, b5, b6, b7⟩
theorem ss_forO {gt : FG} {wt : VG} (he' : SimE p true fe ve) (hg : SimG q1 I gt wt) (hb : SimS q2 I f v) : SimS false I (fFor 100000 (fiSeq fe) gt f) (vForO ve wt v) := ⟨fun env en S As he nd => by
  have q := he'.run env en S As he nd
  unfold vForO
  cases hv : ve env with
  | no => exact trivial
  | ex C e =>
    rw [hv] at q
    obtain ⟨S', As', e1, e2, e3, e4, e5⟩ := q
    exact ⟨en, S', As', by simp [fFor, fiSeq, e1], e2, e3, e4, Kp.refl, Mo.no⟩
  | ok m e =>
    rw [hv] at q
    obtain ⟨b, S', As', B, e1, e2, e3, e4, e5, e6⟩ := q
    cases m with
    | lst ms =>
      show StP _ _ _ _ _ _ (if ms.length < 100000 then forO wt v ms e else .no)
      by_cases hl : ms.length < 100000
      · rw [if_pos hl]
        obtain ⟨n, ds, B', rfl, g1, g2, rfl⟩ := rep_lst (show Rep S' _ _ _ from e3)
        have : fFor 100000 (fiSeq fe) gt f en S = forR gt f n 100000 0 en S' := by simp [fFor, fiSeq, e1, iterOf, g1]
        rw [this]
        have r := ss_forOr hg hb n ds 100000 0 ms e en S' As' B' (by rw [← g2.length]; omega) e2 g1 (by simpa using g2) e4
        exact StP.later (q1 := false) r e5 Kp.refl Mo.no (fun z => by cases z) (fun z => by cases z)
      · rw [if_neg hl]; exact trivial
    | _ => exact trivial⟩
end owned
section bor
variable {c : FT} {vc : VT} {f : FE} {vf : VE}
/-- the name j looks at m, a part of what i owns -/
def Env.bor (env : Env) (j i : Nat) (m : M) : Env := ⟨env.o.set j none, (j, i, m) :: env.b.filter fun t => t.1 != j && t.2.1 != j⟩
theorem EnvR.bor {S : So} {env : Env} {en : En} {As : List (List Nat)} {j i : Nat} {m : M} {d : D} {A F : List Nat} (h : EnvR S env en As) (hj : j < en.length) (hij : i ≠ j) (r : Rep S m d A) (hF : As[i]? = some F) (hA : ∀ n ∈ A, n ∈ F) : EnvR S (env.bor j i m) (en.set j (some d)) (As.set j []) := by
  have h0 := h.put (x := none) (e := some d) (A := []) j rfl
  refine ⟨h0.sl, fun t ht => ?_⟩
  unfold Env.bor at ht
  rcases List.mem_cons.mp ht with rfl | ht
  · exact ⟨d, A, F, List.getElem?_set_self hj, r, by rw [List.getElem?_set_ne (fun q => hij q.symm)]; exact hF, hA⟩
  · exact h0.bo t ht
/-- the turns over the parts, looked at -/
def lcB (j i : Nat) (c : VT) (f : VE) (env : Env) : List M → List M → Option (List M)
  | [], acc => some acc
  | m :: ms, acc => match c (env.bor j i m) with
    | .ok true _ => match f (env.bor j i m) with
      | .ok y _ => if acc.length < 1000000 then lcB j i c f env ms (acc ++ [y]) else none
      | _ => none
    | .ok false _ => lcB j i c f env ms acc
    | _ => none
theorem lcB_run (hc : SimT true c vc) (hf : SimE true true f vf) {j i : Nat} {env : Env} {en : En} {As : List (List Nat)} (nd : Nd As.flatten) (hij : i ≠ j) (hj : j < en.length) {F : List Nat} (hF : As[i]? = some F) {S0 : So} (n : Nat) (all : List D) : ∀ (k a : Nat) (ms acc : List M) (dacc : List D) (S : So) (B Bm : List Nat) (out : List M), all.length - a < k → S[n]? = some (.lst all) → EnvR S env en As → Reps S ms (all.drop a) Bm → (∀ x ∈ Bm, x ∈ F) → Reps S acc dacc B → Nd B → (∀ x ∈ B, S0.length ≤ x) → S0.length ≤ S.length → lcB j i vc vf env ms acc = some out →
    ∃ J dout B', lcR (gtName j) c f en n k a dacc S = .ok dout (S ++ J) ∧ Reps (S ++ J) out dout B' ∧ Nd B' ∧ ∀ x ∈ B', S0.length ≤ x
  | 0, a, ms, acc, dacc, S, B, Bm, out, hk, hS, he, hm, hmF, hr, nb, hb, hl, h => by omega
  | k + 1, a, ms, acc, dacc, S, B, Bm, out, hk, hS, he, hm, hmF, hr, nb, hb, hl, h => by
    cases ms with
    | nil =>
      unfold Reps at hm
      have hl' : all.length ≤ a := List.drop_eq_nil_iff.mp hm.1
      simp only [lcB] at h; cases h
      refine ⟨[], dacc, B, ?_, by simpa using hr, nb, hb⟩
      simp [lcR, hS, List.getElem?_eq_none hl']
    | cons m ms =>
      unfold Reps at hm
      obtain ⟨d, r, B1, B2, hd, h1, h2, rfl⟩ := hm
      have hi : a < all.length := by
        rcases Nat.lt_or_ge a all.length with h | h
        · exact h
        · rw [List.drop_of_length_le h] at hd; cases hd
      rw [List.drop_eq_getElem_cons hi] at hd
      simp only [List.cons.injEq] at hd
      obtain ⟨rfl, rfl⟩ := hd
      have hge : all[a]? = some all[a] := List.getElem?_eq_getElem hi
      have hSl := (List.getElem?_eq_some_iff.mp hS).1
      have he1 : EnvR S (env.bor j i m) (en.set j (some all[a])) (As.set j []) := he.bor hj hij h1 hF (fun x hx => hmF x (by simp [hx]))
      have nd1 : Nd (As.set j []).flatten := nd.le fun x => by have := count_set_le As j [] x; simpa using this
      unfold lcB at h
      have qc := hc.run (env.bor j i m) _ S _ he1 nd1
      cases hkk : vc (env.bor j i m) with
      | no => rw [hkk] at h; cases h
      | ex => rw [hkk] at h; cases h
      | ok kk e =>
        rw [hkk] at h qc
        obtain ⟨b, S1, As2, Bq, c1, c2, ⟨rfl, rfl⟩, c4, c5, c6⟩ := qc
        obtain ⟨rfl, J, rfl⟩ := c6 rfl
        cases b with
        | false =>
          dsimp only at h
          obtain ⟨J', dout, B', r1, r2, r3, r4⟩ := lcB_run hc hf nd hij hj hF n all k (a + 1) ms acc dacc (S ++ J) B B2 out (by omega) (by rw [get_app hSl]; exact hS) he.more h2.more (fun x hx => hmF x (by simp [hx])) hr.more nb hb (by simp; omega) h
          refine ⟨J ++ J', dout, B', ?_, by rw [← List.append_assoc]; exact r2, r3, r4⟩
          rw [← List.append_assoc]
          simp [lcR, hS, hge, c1, r1]
        | true =>
          dsimp only at h
          have qf := hf.run (env.bor j i m) _ (S ++ J) _ he1.more nd1
          cases hy : vf (env.bor j i m) with
          | no => rw [hy] at h; cases h
          | ex => rw [hy] at h; cases h
          | ok y e' =>
            rw [hy] at h qf
            obtain ⟨dy, S2, As3, By, f1, f2, f3, f4, f5, f6⟩ := qf
            obtain ⟨rfl, J', rfl⟩ := f6 rfl
            have : As3 = As.set j [] := f2.det he1.more.more
            subst this
            dsimp only at h
            split at h
            · rename_i hlen
              have hBy : ∀ x ∈ By, (S ++ J).length ≤ x := fun x hx => (f5.new x (by simp [hx])).elim (fun z => (f4.not z hx).elim) id
              have hB : ∀ x ∈ B, x < S.length := hr.lt
              obtain ⟨J2, dout, B', r1, r2, r3, r4⟩ := lcB_run hc hf nd hij hj hF n all k (a + 1) ms (acc ++ [y]) (dacc ++ [dy]) (S ++ J ++ J') (B ++ (By ++ [])) B2 out (by omega) (by rw [List.append_assoc, get_app hSl]; exact hS) he.more.more h2.more.more (fun x hx => hmF x (by simp [hx])) (hr.more.more.append (Reps.cons f3 Reps.nil)) (nb.app (by simpa using f4.right) (fun x hx z => by
                  have := hBy x (by simpa using z)
                  have := hB x hx
                  simp at *; omega)) (fun x hx => by
                  simp only [List.append_nil, List.mem_append] at hx
                  rcases hx with hx | hx
                  · exact hb x hx
                  · have := hBy x hx; simp at this; omega) (by simp; omega) h
              refine ⟨J ++ J' ++ J2, dout, B', ?_, by simpa using r2, r3, r4⟩
              have hl2 : dacc.length < sizeLine := by rw [← hr.length]; exact lim_lt hlen
              simp only [lcR, hS, hge, gtName_eq, c1, bind_ok, if_true, f1, hl2, r1]
              simp
            · cases h
/-- [f for j in P], the items looked at -/
def vLcB (j : Nat) (P : Pl) (c : VT) (f : VE) : VE := fun env => match P env with
  | some (i, p) => match env.look i p with
    | some (.lst ms) => if ms.length < 100000 ∧ i ≠ j ∧ j < env.o.length then ofM ((lcB j i c f (env.clr [j]) ms []).bind frzM) env else .no
    | _ => .no
  | none => .no
theorem se_lcB {s : Bool} {fo : FE} {P : Pl} {j : Nat} (hp : SimP s fo P) (hc : SimT true c vc) (hf : SimE true true f vf) : SimE true true (fLc 100000 false [j] (fiSeq fo) (gtName j) c f) (vLcB j P vc vf) := ⟨fun env en S As he nd => by
  unfold vLcB
  cases hP : P env with
  | none => exact trivial
  | some q =>
    obtain ⟨i, p⟩ := q
    dsimp only
    cases hl : env.look i p with
    | none => exact trivial
    | some m =>
      cases m with
      | lst ms =>
        refine at_if fun hc' => ?_
        obtain ⟨hlen, hij, hjl⟩ := hc'
        obtain ⟨J, d0, d, h1, h2, h3⟩ := hp.run env en S As i p _ he nd hP hl
        obtain ⟨m0, d0', A, g1, g2, g3, g4, g5⟩ := look_rep he hl
        rw [h2] at g2; cases g2
        obtain ⟨e, A1, A', A2, k1, k2, k3, k4⟩ := at_rep g4 g5
        have := h3.det k1
        subst this
        obtain ⟨n, ds, Bm, rfl, w1, w2, rfl⟩ := rep_lst k3
        cases hb : lcB j i vc vf (env.clr [j]) ms [] with
        | none => exact trivial
        | some out =>
          show SimAt _ _ _ _ _ _ _ (ofM (frzM out) env)
          cases hm : valsM out with
          | none => unfold frzM; rw [hm]; exact trivial
          | some es =>
            have he1 : EnvR S (env.clr [j]) (wipeD en [j]) (As.set j []) := he.put j (show SlotR S none none [] from rfl)
            have nd1 : Nd (As.set j []).flatten := nd.le fun x => by have := count_set_le As j [] x; simpa using this
            have hlen2 := he.sl.len
            have hF : (As.set j [])[i]? = some A := by rw [List.getElem?_set_ne (fun q => hij q.symm)]; exact g3
            have hSl := (List.getElem?_eq_some_iff.mp w1).1
            have hjw : j < (wipeD en [j]).length := by simp [wipeD]; rw [hlen2.1]; exact hjl
            obtain ⟨J2, dout, B', r1, r2, r3, r4⟩ := lcB_run hc hf nd1 hij hjw hF (S0 := S ++ J) n ds 100000 0 ms [] [] (S ++ J) [] Bm out (by rw [← w2.length]; omega) (by rw [get_app hSl]; exact w1) he1.more (by simpa using w2.more (J := J)) (fun x hx => by rw [k2]; simp [hx]) Reps.nil Nd.nil (by simp) (Nat.le_refl _) hb
            rw [valsM_eq hm] at r2
            obtain ⟨rfl, h4, rfl⟩ := Reps.vals_of r2
            have hf' : fLc 100000 false [j] (fiSeq fo) (gtName j) c f en S = .ok (.lst dout) (S ++ J ++ J2) := by
              have hit : iterOf (S ++ J) (.ref n) = some (.live n) := by
                have : (S ++ J)[n]? = some (.lst ds) := by rw [get_app hSl]; exact w1
                simp [iterOf, this]
              simp only [fLc, fiSeq, h1, bind_ok, hit, ofI_some, lcT, r1, noX_ok, newL_f, ofO_some]
            rw [hf', List.append_assoc]
            unfold frzM; rw [hm]
            exact SimAt.ok (B := []) he nd (fun n hn => hn) (show Rep _ _ _ _ from Rep.val (by simpa [nr] using h4)) (by simpa using nd) (by simp)
      | _ => exact trivial⟩
end bor
end VF

namespace VF
open PySem L2 PF
variable [Tab]
section
variable {p x : Bool} {fe : FE} {ve : VE}
theorem nrs_enum : ∀ {xs : List D} (k : Nat), nrs xs = true → nrs (enumD k xs) = true
  | [], k, h => rfl
  | d :: xs, k, h => by
    simp only [nrs, Bool.and_eq_true] at h
    simp only [enumD, nrs, nr, Bool.and_true, Bool.and_eq_true]
    exact ⟨⟨trivial, h.1⟩, nrs_enum (k + 1) h.2⟩
def viEnum (ve : VE) : VI := fun env => (ve env).bind fun m e => match m with
  | .val (.lst xs) => .ok (enumD 0 xs) e
  | _ => .no
theorem sf_enum (h : SimE p true fe ve) : SimF p true (fiEnum (fCons fe fNil)) (viEnum ve) := ⟨fun env en S As he nd => by
  have q := h.run env en S As he nd
  unfold viEnum
  cases hv : ve env with
  | no => exact trivial
  | ex C e =>
    rw [hv] at q
    obtain ⟨S', As', e1, e2, e3, e4, e5⟩ := q
    exact ⟨S', As', by simp [fiEnum, fCons, e1], e2, e3, e4, e5⟩
  | ok m e =>
    rw [hv] at q
    obtain ⟨b, S', As', B, e1, e2, e3, e4, e5, e6⟩ := q
    cases m with
    | val d =>
      obtain ⟨rfl, h2, rfl⟩ := rep_val (show Rep S' _ _ _ from e3)
      cases b with
      | lst xs =>
        exact ⟨.items (enumD 0 xs), S', As', [], by simp [fiEnum, fCons, fNil, e1], e2, ⟨rfl, nrs_enum 0 (by simpa [nr] using h2), .inl rfl⟩, e4, e5, e6⟩
      | _ => exact trivial
    | _ => exact trivial⟩
end
/-! ### a, b = x, y where what is owned is handed over -/
section names
variable {I : List Nat} {p : Bool} {fa : FA} {va : VA}
def gtNames : List Nat → FGs
  | [] => gtNil
  | i :: is => gtCons (gtName i) (gtNames is)
def putAll : List Nat → List M → Env → Option Env
  | [], [], e => some e
  | i :: is, m :: ms, e => putAll is ms (e.put i (some m))
  | _, _, _ => none
def vAsgN (is : List Nat) (va : VA) : VS := fun env => vthen (va env) fun ms e => if ms.length ≤ 1000000 then vlG (putAll is ms e) else .no
theorem put_all {en0 : En} : ∀ (is : List Nat) (ms : List M) (ds : List D) (env e' : Env) (en : En) (S : So) (As : List (List Nat)) (B : List Nat), (∀ i ∈ is, i ∉ I) → EnvR S env en As → Reps S ms ds B → Nd (As.flatten ++ B) → Kp I en0 en → putAll is ms env = some e' →
    ∃ en' As', gtNames is ds en S = some (en', S) ∧ EnvR S e' en' As' ∧ (∀ a, As'.flatten.count a ≤ As.flatten.count a + B.count a) ∧ Kp I en0 en'
  | [], ms, ds, env, e', en, S, As, B, hi, he, hr, nd, hk, h => by
    cases ms with
    | nil =>
      simp only [putAll] at h; cases h
      unfold Reps at hr
      obtain ⟨rfl, rfl⟩ := hr
      exact ⟨en, As, rfl, he, fun a => by omega, hk⟩
    | cons m ms => simp [putAll] at h
  | i :: is, ms, ds, env, e', en, S, As, B, hi, he, hr, nd, hk, h => by
    cases ms with
    | nil => simp [putAll] at h
    | cons m ms =>
      simp only [putAll] at h
      unfold Reps at hr
      obtain ⟨d, r, B1, B2, rfl, h2, h3, rfl⟩ := hr
      have hcs : ∀ a, (As.set i B1).flatten.count a ≤ As.flatten.count a + B1.count a := fun a => count_set_le As i B1 a
      have hii : i ∉ I := hi i (by simp)
      obtain ⟨en', As', g1, g2, g3, g4⟩ := put_all is ms r (env.put i (some m)) e' (en.set i (some d)) S (As.set i B1) B2 (fun j hj => hi j (by simp [hj])) (he.put i (slot_some h2)) h3 (nd.le fun a => by have := hcs a; simp only [List.count_append]; omega) (hk.trans fun j hj => by rw [List.getElem?_set_ne (fun q => hii (by rw [q]; exact hj))]) h
      refine ⟨en', As', ?_, g2, fun a => ?_, g4⟩
      · simp only [gtNames, gtCons, gtName, g1]
      · have := hcs a
        have := g3 a
        simp only [List.count_append]; omega
theorem ss_asgN {is : List Nat} (hi : ∀ i ∈ is, i ∉ I) (h : SimA p fa va) : SimS (p && true) I (fAsg (fTup fa) (gtTup is.length (gtNames is))) (vAsgN is va) := ⟨fun env en S As he nd => by
  have q := h.run env en S As he nd
  unfold vAsgN
  cases hv : va env with
  | no => exact trivial
  | ex C e =>
    rw [hv] at q
    obtain ⟨S', As', e1, e2, e3, e4, e5⟩ := q
    exact ⟨en, S', As', by simp [fAsg, fTup, e1], e2, e3, e4, Kp.refl, fun z => (e5 (by simp at z; exact z)).2⟩
  | ok ms e =>
    rw [hv] at q
    obtain ⟨ds, S', As', B, e1, e2, e3, e4, e5, e6⟩ := q
    show StP _ _ _ _ _ _ (if ms.length ≤ 1000000 then vlG (putAll is ms e) else .no)
    by_cases hl : ms.length ≤ 1000000
    · rw [if_pos hl]
      cases hp : putAll is ms e with
      | none => exact trivial
      | some e' =>
        obtain ⟨en', As2, g1, g2, g3, g4⟩ := put_all (I := I) (en0 := en) is ms ds e e' en S' As' B hi e2 e3 e4 Kp.refl hp
        have hlen : ds.length = is.length := by
          rw [← e3.length]
          clear g1 g2 g3 g4 e3 e1 e2 e4 e5 e6 hv
          induction is generalizing ms e with
          | nil => cases ms with
            | nil => rfl
            | cons _ _ => simp [putAll] at hp
          | cons i is ih => cases ms with
            | nil => simp [putAll] at hp
            | cons m ms =>
              simp only [putAll] at hp
              have := ih (fun j hj => hi j (by simp [hj])) ms (e.put i (some m)) (by simp at hl; omega) hp
              simp [this]
        refine ⟨en', S', As2, ?_, g2, e4.le fun a => by have := g3 a; rw [List.count_append]; exact this, ⟨e5.len, e5.same, fun n hn => e5.new n ?_⟩, g4, fun z => (e6 (by simp at z; exact z)).2⟩
        · have hsz : ds.length ≤ sizeLine := lim_le (by rw [← e3.length]; exact hl)
          simp only [fAsg, fTup, e1, bind_ok, if_pos hsz, then_ok, gtTup_eq, if_pos hlen, g1, flG_some]
        · have : 0 < As'.flatten.count n + B.count n := Nat.lt_of_lt_of_le (List.count_pos_iff.mpr hn) (g3 n)
          rw [← List.count_append] at this
          exact List.count_pos_iff.mp this
    · rw [if_neg hl]; exact trivial⟩
end names
/-- places stand where the def gives them back -/
def plOk : List Bool → Nat → List Nat → Bool
  | [], _, _ => true
  | b :: r, k, I => (!b || I.contains k) && plOk r (k + 1) I
theorem pl_ok0 : ∀ (ks : List Bool) (k0 : Nat) (I : List Nat), plOk ks k0 I = true → ∀ k, ks[k]? = some true → k0 + k ∈ I
  | [], k0, I, h, k, e => by simp at e
  | b :: r, k0, I, h, 0, e => by
    simp only [plOk, Bool.and_eq_true] at h
    simp at e; subst e
    simpa using h.1
  | b :: r, k0, I, h, k + 1, e => by
    simp only [plOk, Bool.and_eq_true] at h
    have := pl_ok0 r (k0 + 1) I h.2 k (by simpa using e)
    rw [show k0 + (k + 1) = k0 + 1 + k by omega]; exact this
theorem pl_ok {ks : List Bool} {I : List Nat} (h : plOk ks 0 I = true) : ∀ k, ks[k]? = some true → k ∈ I := fun k e => by
  have := pl_ok0 ks 0 I h k e
  simpa using this
/-! ### from the law's value to its run -/
theorem law_of {F : FN} {V : VN} {q : Bool} {I : List Nat} (n : NSim q I F V) {ns : List Int} {os : List (Option M)} (h : V [.val (.scr ns)] = .ok (.val (.bl true)) os) : ∃ S', F [.scr ns] [] = .ok (.bl true) S' := by
  have := n.run [.val (.scr ns)] [.scr ns] [] [] (Reps.cons (A := []) (B := []) (Rep.val rfl) Reps.nil) Nd.nil
  rw [h] at this
  obtain ⟨d, S', Bs, B', e1, e2, e3, _⟩ := this
  obtain ⟨rfl, _, _⟩ := rep_val e3
  exact ⟨S', e1⟩
end VF
namespace VF
open PySem L2 PF
variable [Tab]
/-- what the law's def promises: of a script of at most 63 ints it tells True -/
def spL (K : PySem.W.Frag) : Sp := fun vs H Q _ => ∃ (a : Addr) (ns : List Int), vs = [.ref a] ∧ SqL K H a (ns.map V.int) ∧ ns.length ≤ 63 ∧ LamX.Tabs Tab.T H ∧ ∀ H', Q (.bl true) H'
theorem spL_of {K : PySem.W.Frag} {F : FN} (hF : ∀ ns : List Int, ns.length ≤ 63 → ∃ S, F [.scr ns] [] = .ok (.bl true) S) (vs : List V) (H : Hp) (Q : VK) (E : XK) (h : spL K vs H Q E) : spD K F 1 vs H Q E := by
  obtain ⟨a, ns, rfl, hS, hl, hT, hQ⟩ := h
  obtain ⟨h1, W, S, ds, h2, h3, h4⟩ := PF.law_start (K := K) (F := F) hF hl hS hT
  refine ⟨h1, W, S, ds, h2, h3, ?_⟩
  cases e : F ds S with
  | no => rw [e] at h4; exact h4
  | ok d S' =>
    rw [e] at h4
    intro W' H' b x s r
    rw [h4 W' H' b x s r]
    exact hQ H'
  | ex C S' =>
    rw [e] at h4
    intro W' H' d x s
    exact (h4 W' H' d x s).elim
end VF

namespace VF
open PySem L2 PF
variable [Tab]
/-! ### equations by which a text by values runs -/
section eqs
variable {α β : Type} {env e e1 : Env} {m a b : M} {d x y : D} {v va vb vc vd vf : VE} {t ta tb : VT} {w : VA} {i j : Nat}
theorem nq {α : Sort _} {a b : α} (h : a = b) : a = b := h
@[simp] theorem bv_ok (a : α) (k : α → Env → Rv β) : (Rv.ok a e).bind k = k a e := rfl
@[simp] theorem bv_ex (C : Addr) (k : α → Env → Rv β) : (Rv.ex C e).bind k = .ex C e := rfl
@[simp] theorem bv_no (k : α → Env → Rv β) : (Rv.no).bind k = .no := rfl
@[simp] theorem tv_ok (a : α) (k : α → Env → Vl) : vthen (.ok a e) k = k a e := rfl
@[simp] theorem tv_ex (C : Addr) (k : α → Env → Vl) : vthen (.ex C e : Rv α) k = .ex C e := rfl
@[simp] theorem tv_no (k : α → Env → Vl) : vthen .no k = .no := rfl
@[simp] theorem ofM_some : ofM (some m) e = .ok m e := rfl
@[simp] theorem ofM_none : ofM none e = .no := rfl
@[simp] theorem getO_some (k : M → Rv M) : getO (some (some m)) k = k m := rfl
@[simp] theorem isV_val : isV (.val d) e = .ok (.val d) e := rfl
@[simp] theorem vVar_eq : vVar i env = getO env.o[i]? fun m => isV m env := rfl
@[simp] theorem vLk_eq : vLk i env = getO env.o[i]? fun m => ofM (lookM m) env := rfl
@[simp] theorem vMv_eq : vMv i env = getO env.o[i]? fun m => .ok m (env.up i none) := rfl
@[simp] theorem lookM_val : lookM (.val d) = some (.val d) := rfl
@[simp] theorem lookM_lst (ms : List M) : lookM (.lst ms) = (valsM ms).map fun ds => .val (.lst ds) := by
  simp only [lookM]; cases valsM ms <;> rfl
@[simp] theorem valsM_vals (ds : List D) : valsM (ds.map M.val) = some ds := valsM_map ds
@[simp] theorem valsM_nil : valsM [] = some [] := rfl
@[simp] theorem valsM_cons (ms : List M) : valsM (.val d :: ms) = (valsM ms).map (d :: ·) := by
  simp only [valsM]; cases valsM ms <;> rfl
@[simp] theorem valsM_app (ds es : List D) : valsM (ds.map M.val ++ es.map M.val) = some (ds ++ es) := by rw [← List.map_append]; exact valsM_map _
@[simp] theorem valsM_snoc (ds : List D) : valsM (ds.map M.val ++ [.val d]) = some (ds ++ [d]) := valsM_app ds [d]
@[simp] theorem up_eq (o : List (Option M)) (z : Option M) : Env.up ⟨o, []⟩ i z = ⟨o.set i z, []⟩ := rfl
@[simp] theorem put_eq (o : List (Option M)) (z : Option M) : Env.put ⟨o, []⟩ i z = ⟨o.set i z, []⟩ := rfl
@[simp] theorem clr_nil : Env.clr e [] = e := rfl
@[simp] theorem clr_cons (vs : List Nat) : Env.clr e (i :: vs) = (Env.clr e vs).put i none := rfl
@[simp] theorem clr2_nil : Env.clr2 e [] = e := rfl
@[simp] theorem clr2_cons (vs : List Nat) : Env.clr2 e (i :: vs) = Env.clr2 (e.put i none) vs := rfl
@[simp] theorem vC_eq : vC d env = .ok (.val d) env := rfl
@[simp] theorem vEx_eq : vEx v env = (v env).bind fun m e => match m with
  | .val (.lst _) => .no
  | .val d => .ok (.val d) e
  | _ => .no := rfl
@[simp] theorem liftG_val (g : G2) : liftG g (.val x) (.val y) = (g x y []).map fun r => .val r.1 := rfl
@[simp] theorem vOp_eq (g : G2) : vOp g va vb env = (va env).bind fun a e1 => (vb e1).bind fun b e2 => ofM (liftG g a b) e2 := rfl
@[simp] theorem vOwn_eq : vOwn v env = (v env).bind fun m e => ofM (ownM m) e := rfl
@[simp] theorem ownM_lst (ds : List D) : ownM (.val (.lst ds)) = some (.lst (ds.map M.val)) := rfl
@[simp] theorem isBm_bl (k : Bool) : isBm (.val (.bl k)) e = .ok k e := rfl
@[simp] theorem vTst_eq : vTst v env = (v env).bind isBm := rfl
@[simp] theorem vTru_eq : vTru v env = (v env).bind isTm := rfl
@[simp] theorem isTm_bl (k : Bool) : isTm (.val (.bl k)) e = .ok k e := rfl
@[simp] theorem isTm_int (k : Int) : isTm (.val (.int k)) e = .ok (k != 0) e := rfl
@[simp] theorem isTm_lst (ds : List D) : isTm (.val (.lst ds)) e = .ok (!ds.isEmpty) e := rfl
@[simp] theorem isTm_tup (ds : List D) : isTm (.val (.tup ds)) e = .ok (!ds.isEmpty) e := rfl
@[simp] theorem isTm_non : isTm (.val .non) e = .ok false e := rfl
@[simp] theorem vNotT_eq : vNotT t env = (t env).bind fun k e => .ok (!k) e := rfl
@[simp] theorem vAndT_eq : vAndT ta tb env = (ta env).bind fun k e => if k = true then tb e else .ok false e := rfl
@[simp] theorem vOrT_eq : vOrT ta tb env = (ta env).bind fun k e => if k = true then .ok true e else tb e := rfl
@[simp] theorem vIf_eq : vIf t va vb env = (t env).bind fun k e => if k = true then va e else vb e := rfl
@[simp] theorem vIfT_eq {tc : VT} : vIfT tc ta tb env = (tc env).bind fun k e => if k = true then ta e else tb e := rfl
@[simp] theorem asBm_bl (k : Bool) (f : Bool → Rv M) : asBm (.val (.bl k)) f = f k := rfl
@[simp] theorem asIm_int (k : Int) (f : Int → Rv α) : asIm (.val (.int k)) f = f k := rfl
@[simp] theorem vAndV_eq : vAndV va vb env = (va env).bind fun m e => asBm m fun k => if k = true then vb e else .ok (.val (.bl false)) e := rfl
@[simp] theorem vOrV_eq : vOrV va vb env = (va env).bind fun m e => asBm m fun k => if k = true then .ok (.val (.bl true)) e else vb e := rfl
@[simp] theorem vNotV_eq : vNotV va env = (va env).bind fun m e => asBm m fun k => .ok (.val (.bl (!k))) e := rfl
@[simp] theorem vChain_eq (g g' : G2) : vChain g g' va vb vc env = (va env).bind fun a e1 => (vb e1).bind fun b e2 => (ofM (liftG g a b) e2).bind fun z e3 => asBm z fun k => if k = true then (vc e3).bind fun c e4 => ofM (liftG g' b c) e4 else .ok (.val (.bl false)) e3 := rfl
@[simp] theorem vChain3_eq (g g' g'' : G2) : vChain3 g g' g'' va vb vc vd env = (va env).bind fun a e1 => (vb e1).bind fun b e2 => (ofM (liftG g a b) e2).bind fun z e3 => asBm z fun k => if k = true then (vc e3).bind fun c e4 => (ofM (liftG g' b c) e4).bind fun z e5 => asBm z fun k => if k = true then (vd e5).bind fun d e6 => ofM (liftG g'' c d) e6 else .ok (.val (.bl false)) e5 else .ok (.val (.bl false)) e3 := rfl
@[simp] theorem vNil_eq : vNil env = .ok [] env := rfl
@[simp] theorem vCons_eq : vCons v w env = (v env).bind fun m e => (w e).bind fun ms e2 => .ok (m :: ms) e2 := rfl
@[simp] theorem liftA_eq (g : GA) (ms : List M) : liftA g ms = (valsM ms).bind fun xs => (g xs []).map fun r => .val r.1 := by
  unfold liftA; cases valsM ms <;> rfl
@[simp] theorem vCB_eq (g : GA) : vCB g w env = (w env).bind fun ms e => ofM (liftA g ms) e := rfl
@[simp] theorem vTup_eq : vTup w env = (w env).bind fun ms e => match valsM ms with
  | some ds => if ds.length ≤ 1000000 then .ok (.val (.tup ds)) e else .no
  | none => .no := rfl
@[simp] theorem vLst_eq : vLst w env = (w env).bind fun ms e => match valsM ms with
  | some ds => if ds.length ≤ 1000000 then .ok (.val (.lst ds)) e else .no
  | none => .no := rfl
@[simp] theorem vLstN_eq : vLstN w env = (w env).bind fun ms e => if ms.length ≤ 1000000 then .ok (.lst ms) e else .no := rfl
@[simp] theorem vNoPart_eq : vNoPart env = .ok none env := rfl
@[simp] theorem vPart_eq : vPart v env = (v env).bind fun m e => asIm m fun i => .ok (some i) e := rfl
@[simp] theorem liftS_val (lo hi : Option Int) : liftS (.val x) lo hi = (gSl false x lo hi []).map fun r => .val r.1 := rfl
@[simp] theorem vSl_eq {vl vh : VO} : vSl va vl vh env = (va env).bind fun a e1 => (vl e1).bind fun lo e2 => (vh e2).bind fun hi e3 => ofM (liftS a lo hi) e3 := rfl
@[simp] theorem vSlN_eq {vl vh : VO} : vSlN va vl vh env = (va env).bind fun a e1 => (vl e1).bind fun lo e2 => (vh e2).bind fun hi e3 => ofM ((liftS a lo hi).bind ownM) e3 := rfl
@[simp] theorem vNeg_eq : vNeg v env = (v env).bind fun m e => asIm m fun i => .ok (.val (.int (-i))) e := rfl
@[simp] theorem vIsi_eq (T : String) : vIsi T v env = (v env).bind fun m e => ofM (isiM T m) e := rfl
@[simp] theorem isiM_val (T : String) : isiM T (.val d) = match tyN [] d with
  | some t => (kitB t T).map fun b => .val (.bl b)
  | none => none := rfl
@[simp] theorem vRgW_eq (k : List D → M) : vRgW k v env = (v env).bind fun m e => asIm m fun n => if rgOk1 n = true then .ok (k (rgD 0 n.toNat)) e else .no := rfl
/-! calls -/
@[simp] theorem rnV_ok (os : List (Option M)) : rnV (.ok m os) e = .ok m e := rfl
@[simp] theorem rnV_ex (C : Addr) (os : List (Option M)) : rnV (.ex C os) e = .ex C e := rfl
@[simp] theorem vCallV_eq (V : VN) : vCallV V w env = (w env).bind fun ms e => match valsM ms with
  | some _ => rnV (V ms) e
  | none => .no := rfl
@[simp] theorem wNil_eq : wNil env = .ok [] env := rfl
@[simp] theorem wTm_eq {w : Env → Rv (List Ar)} : wTm v w env = (v env).bind fun m e => (w e).bind fun its e2 => .ok (.tm m :: its) e2 := rfl
def plK (o : Option (Nat × List Stp)) (env : Env) (k : Nat → List Stp → M → Rv α) : Rv α := match o with
  | some (i, p) => match env.look i p with
    | some m => k i p m
    | none => .no
  | none => .no
@[simp] theorem plK_some (p : List Stp) (k : Nat → List Stp → M → Rv α) : plK (some (i, p)) env k = match env.look i p with
    | some m => k i p m
    | none => .no := rfl
@[simp] theorem wPl_eq {P : Pl} {w : Env → Rv (List Ar)} : wPl P w env = plK (P env) env fun i p _ => (w env).bind fun its e2 => .ok (.pl i p :: its) e2 := by
  unfold wPl plK
  cases P env with
  | none => rfl
  | some q => obtain ⟨i, p⟩ := q; dsimp only <;> cases env.look i p <;> rfl
@[simp] theorem pVar_eq : pVar i env = some (i, []) := rfl
def lookO (o : Option (Option M)) (p : List Stp) : Option M := match o with
  | some (some m) => m.at p
  | _ => none
@[simp] theorem look_eq (p : List Stp) : env.look i p = lookO env.o[i]? p := rfl
@[simp] theorem lookO_some (p : List Stp) : lookO (some (some m)) p = m.at p := rfl
@[simp] theorem at_nil : M.at [] m = some m := rfl
@[simp] theorem wrs_nil (m2 : M) : M.wrs [] m m2 = m2 := rfl
@[simp] theorem at_ix (ms : List M) (p : List Stp) : M.at (.ix j :: p) (.lst ms) = (ms[j]?).bind (M.at p) := by
  simp only [M.at, M.sub]; cases ms[j]? <;> rfl
@[simp] theorem at_fld (C : Addr) (k : Nat) (s : Str) (ns : List Str) (ms : List M) (p : List Stp) : M.at (.fld C k s :: p) (.ins C ns ms) = if ns[k]? = some s then (ms[k]?).bind (M.at p) else none := by
  simp only [M.at, M.sub, true_and]
  by_cases h : ns[k]? = some s
  · simp only [h, if_true]; cases ms[k]? <;> rfl
  · simp only [h, if_false]
@[simp] theorem pIx_eq {P : Pl} : pIx P v env = match P env with
  | some (i, p) => match env.look i p, v env with
    | some (.lst ms), .ok (.val (.int k)) _ => match ixN ms.length k with
      | some j => some (i, p ++ [.ix j])
      | none => none
    | _, _ => none
  | none => none := rfl
@[simp] theorem vGet_eq {P : Pl} : vGet P env = plK (P env) env fun _ _ m => ofM (lookM m) env := by
  unfold vGet plK
  cases P env with
  | none => rfl
  | some q => obtain ⟨i, p⟩ := q; dsimp only <;> cases env.look i p <;> rfl
@[simp] theorem vCall_eq (V : VN) {w : Env → Rv (List Ar)} : vCall V w env = (w env).bind fun its e => crV (callG V 0 its [] e) := rfl
@[simp] theorem vCallR_eq (V : VN) {w : Env → Rv (List Ar)} : vCallR V w env = (w env).bind fun its e => match callG V 0 its [] e with
  | .ok (.val d) _ _ => .ok (.val d) e
  | .ex C _ _ => .ex C e
  | _ => .no := rfl
@[simp] theorem crV_ok (os : List (Option M)) : crV (.ok m os e) = .ok m e := rfl
@[simp] theorem crV_ex (C : Addr) (os : List (Option M)) : crV (.ex C os e) = .ex C e := rfl
@[simp] theorem backO_some (os : List (Option M)) (k : M → Cr) (h : os[j]? = some (some m)) : backO os j k = k m := by unfold backO; rw [h]
def rnC (r : Rn) (e : Env) : Cr := match r with
  | .ok m os => .ok m os e
  | .ex C os => .ex C os e
  | .no => .no
@[simp] theorem rnC_ok (os : List (Option M)) : rnC (.ok m os) e = .ok m os e := rfl
@[simp] theorem rnC_ex (C : Addr) (os : List (Option M)) : rnC (.ex C os) e = .ex C os e := rfl
@[simp] theorem callG_nil (V : VN) (acc : List M) : callG V j [] acc e = rnC (V acc) e := rfl
@[simp] theorem callG_tm (V : VN) (r : List Ar) (acc : List M) : callG V j (.tm m :: r) acc e = callG V (j + 1) r (acc ++ [m]) e := rfl
/-- behind the lent place i, p of m0 -/
def crB (j i : Nat) (p : List Stp) (m0 : M) : Cr → Cr
  | .ok m os e1 => backO os j fun m2 => .ok m os (e1.up i (some (m0.wrs p m2)))
  | .ex C os e1 => backO os j fun m2 => .ex C os (e1.up i (some (m0.wrs p m2)))
  | .no => .no
@[simp] theorem crB_ok (p : List Stp) (m0 : M) (os : List (Option M)) : crB j i p m0 (.ok m os e1) = backO os j fun m2 => .ok m os (e1.up i (some (m0.wrs p m2))) := rfl
@[simp] theorem crB_ex (p : List Stp) (m0 : M) (C : Addr) (os : List (Option M)) : crB j i p m0 (.ex C os e1) = backO os j fun m2 => .ex C os (e1.up i (some (m0.wrs p m2))) := rfl
theorem callG_pl (V : VN) (p : List Stp) (r : List Ar) (acc : List M) {m0 m' : M} (h : e.o[i]? = some (some m0)) (h2 : m0.at p = some m') : callG V j (.pl i p :: r) acc e = crB j i p m0 (callG V (j + 1) r (acc ++ [m']) (e.up i none)) := by
  rw [callG, h]; dsimp only; rw [h2]; dsimp only
  cases callG V (j + 1) r (acc ++ [m']) (e.up i none) <;> rfl
/-- with a place, in one go -/
def atO (o : Option (Option M)) (p : List Stp) (k : M → M → Cr) : Cr := match o with
  | some (some m0) => match m0.at p with
    | some m' => k m0 m'
    | none => .no
  | _ => .no
@[simp] theorem atO_some (p : List Stp) (k : M → M → Cr) : atO (some (some m)) p k = match m.at p with
    | some m' => k m m'
    | none => .no := rfl
@[simp] theorem callG_plO (V : VN) (p : List Stp) (r : List Ar) (acc : List M) : callG V j (.pl i p :: r) acc e = atO e.o[i]? p fun m0 m' => crB j i p m0 (callG V (j + 1) r (acc ++ [m']) (e.up i none)) := by
  rw [callG]
  cases e.o[i]? with
  | none => rfl
  | some o =>
    cases o with
    | none => rfl
    | some m0 =>
      simp only [atO_some]
      cases m0.at p with
      | none => rfl
      | some m' => dsimp only; cases callG V (j + 1) r (acc ++ [m']) (e.up i none) <;> rfl
@[simp] theorem vMut_eq (T : String) (V : VN) {P : Pl} {wa : VA} : vMut T V P wa env = plK (P env) env fun i p m => if tyM m = T then (wa env).bind fun ms e => crV (callG V 0 (.pl i p :: ms.map Ar.tm) [] e) else .no := by
  unfold vMut plK
  cases P env with
  | none => rfl
  | some q => obtain ⟨i, p⟩ := q; dsimp only <;> cases env.look i p <;> rfl
@[simp] theorem tyM_lst (ms : List M) : tyM (.lst ms) = "list" := rfl
@[simp] theorem V_append_eq (xs : List M) : V_append [.lst xs, m] = if xs.length < 1000000 then .ok (.val .non) [some (.lst (xs ++ [m]))] else .no := nq rfl
/-! statements -/
@[simp] theorem vNext_eq : vNext env = .nx env := rfl
def seqV (r : Vl) (g : VS) : Vl := match r with
  | .nx e => g e
  | o => o
@[simp] theorem seqV_nx (g : VS) : seqV (.nx e) g = g e := rfl
@[simp] theorem seqV_rt (g : VS) : seqV (.rt m e) g = .rt m e := rfl
@[simp] theorem seqV_bk (g : VS) : seqV (.bk e) g = .bk e := rfl
@[simp] theorem seqV_ct (g : VS) : seqV (.ct e) g = .ct e := rfl
@[simp] theorem seqV_ex (C : Addr) (g : VS) : seqV (.ex C e) g = .ex C e := rfl
@[simp] theorem vSeq_eq (f g : VS) : vSeq f g env = seqV (f env) g := by unfold vSeq seqV; cases f env <;> rfl
@[simp] theorem vExpr_eq : vExpr v env = vthen (v env) fun _ e => .nx e := rfl
@[simp] theorem vRet_eq : vRet v env = vthen (v env) fun m e => .rt m e := rfl
@[simp] theorem vRetN_eq : vRetN env = .rt (.val .non) env := rfl
@[simp] theorem vBrk_eq : vBrk env = .bk env := rfl
@[simp] theorem vCnt_eq : vCnt env = .ct env := rfl
@[simp] theorem vRaise_eq (C : Addr) : vRaise C env = .ex C env := rfl
@[simp] theorem vIte_eq (f g : VS) : vIte t f g env = vthen (t env) fun k e => if k = true then f e else g e := rfl
@[simp] theorem tName_eq : tName i m env = some (env.put i (some m)) := rfl
@[simp] theorem vlG_some : vlG (some e) = .nx e := rfl
@[simp] theorem vlG_none : vlG none = .no := rfl
@[simp] theorem vAsg_eq (g : VG) : vAsg v g env = vthen (v env) fun m e => vlG (g m e) := rfl
@[simp] theorem tNil_eq : tNil [] env = some env := rfl
@[simp] theorem tCons_eq (g : VG) (h : VGs) (ds : List D) : tCons g h (d :: ds) env = (g (.val d) env).bind (h ds) := by
  simp only [tCons]; cases g (.val d) env <;> rfl
@[simp] theorem tTup_eq (n : Nat) (g : VGs) (ds : List D) : tTup n g (.val (.tup ds)) env = if ds.length = n then g ds env else none := nq rfl
@[simp] theorem tPair_eq (x y : D) : tPair i j (.val (.tup [x, y])) env = some ((env.put i (some (.val x))).put j (some (.val y))) := rfl
@[simp] theorem vPar_eq : vPar i j w env = vthen (w env) fun ms e => match ms with
  | [a, b] => .nx ((e.put i (some a)).put j (some b))
  | _ => .no := rfl
@[simp] theorem vPar3_eq (l : Nat) : vPar3 i j l w env = vthen (w env) fun ms e => match ms with
  | [a, b, c] => .nx (((e.put i (some a)).put j (some b)).put l (some c))
  | _ => .no := rfl
@[simp] theorem vAsgN_eq (is : List Nat) : vAsgN is w env = vthen (w env) fun ms e => if ms.length ≤ 1000000 then vlG (putAll is ms e) else .no := rfl
@[simp] theorem putAll_nil : putAll [] [] e = some e := rfl
@[simp] theorem putAll_cons (is : List Nat) (ms : List M) : putAll (i :: is) (m :: ms) e = putAll is ms (e.put i (some m)) := rfl
def augV (o : Option (Option M)) (k : M → Vl) : Vl := match o with
  | some (some (.val x)) => k (.val x)
  | _ => .no
@[simp] theorem augV_some (k : M → Vl) : augV (some (some (.val d))) k = k (.val d) := rfl
def nxO (o : Option M) (k : M → Vl) : Vl := match o with
  | some m => k m
  | none => .no
@[simp] theorem nxO_some (k : M → Vl) : nxO (some m) k = k m := rfl
@[simp] theorem vAug_eq (g : G2) : vAug i v g env = augV env.o[i]? fun x => vthen (v env) fun y e => nxO (liftG g x y) fun m => .nx (e.put i (some m)) := by
  unfold vAug augV
  cases env.o[i]? with
  | none => rfl
  | some o =>
    cases o with
    | none => rfl
    | some m =>
      cases m with
      | val x =>
        dsimp only
        congr 1
      | _ => rfl
@[simp] theorem turnV_nx (k : Env → Vl) : turnV (.nx e) k = k e := rfl
@[simp] theorem turnV_ct (k : Env → Vl) : turnV (.ct e) k = k e := rfl
@[simp] theorem turnV_bk (k : Env → Vl) : turnV (.bk e) k = .nx e := rfl
@[simp] theorem turnV_rt (k : Env → Vl) : turnV (.rt m e) k = .rt m e := rfl
@[simp] theorem turnV_ex (C : Addr) (k : Env → Vl) : turnV (.ex C e) k = .ex C e := rfl
theorem vWhile_succ (c : VT) (b : VS) (n : Nat) : vWhile c b (n + 1) env = vthen (c env) fun k e => if k = true then turnV (b e) (vWhile c b n) else .nx e := rfl
@[simp] theorem vFor_eq (vi : VI) (g : VG) (b : VS) : vFor vi g b env = vthen (vi env) fun ds e => forI g b ds e := rfl
@[simp] theorem forI_nil (g : VG) (b : VS) : forI g b [] env = .nx env := rfl
theorem forI_cons (g : VG) (b : VS) (ds : List D) (h : g (.val d) env = some e1) : forI g b (d :: ds) env = turnV (b e1) (forI g b ds) := by simp only [forI, h]
theorem forI_name (b : VS) (ds : List D) : forI (tName i) b (d :: ds) env = turnV (b (env.put i (some (.val d)))) (forI (tName i) b ds) := rfl
@[simp] theorem forO_nil (g : VG) (b : VS) : forO g b [] env = .nx env := rfl
theorem forO_name (b : VS) (ms : List M) : forO (tName i) b (m :: ms) env = turnV (b (env.put i (some m))) (forO (tName i) b ms) := rfl
@[simp] theorem vForO_eq (g : VG) (b : VS) : vForO v g b env = vthen (v env) fun m e => match m with
  | .lst ms => if ms.length < 100000 then forO g b ms e else .no
  | _ => .no := rfl
@[simp] theorem ofI2_some (ds : List D) : ofI2 (some ds) e = .ok ds e := rfl
@[simp] theorem viSeq_eq : viSeq v env = (v env).bind fun m e => ofI2 (itemsM m) e := rfl
@[simp] theorem itemsM_lst (ds : List D) : itemsM (.val (.lst ds)) = some ds := rfl
@[simp] theorem itemsM_tup (ds : List D) : itemsM (.val (.tup ds)) = some ds := rfl
@[simp] theorem viLk_eq : viLk v env = (v env).bind fun m e => match itemsM m with
  | some ds => if ds.length < 100000 then .ok ds e else .no
  | none => .no := rfl
@[simp] theorem viRng_eq : viRng w env = (w env).bind fun ms e => ofI2 (rngM (intsM ms)) e := rfl
@[simp] theorem intsM_nil : intsM [] = some [] := rfl
@[simp] theorem intsM_cons (k : Int) (ms : List M) : intsM (.val (.int k) :: ms) = (intsM ms).map (k :: ·) := by
  simp only [intsM, intM]; cases intsM ms <;> rfl
@[simp] theorem rngM_1 (k : Int) : rngM (some [k]) = if rngOk k = true then some (rgD 0 k.toNat) else none := rfl
@[simp] theorem rngM_2 (k l : Int) : rngM (some [k, l]) = if rngOk k = true ∧ rngOk l = true then some (rgD k (l - k).toNat) else none := rfl
@[simp] theorem viEnum_eq : viEnum v env = (v env).bind fun m e => match m with
  | .val (.lst xs) => .ok (enumD 0 xs) e
  | _ => .no := rfl
@[simp] theorem vYes_eq : vYes env = .ok true env := rfl
@[simp] theorem frzM_eq (ms : List M) : frzM ms = (valsM ms).map fun ds => .val (.lst ds) := rfl
@[simp] theorem vLc_eq (vs : List Nat) (vi : VI) (g : VG) : vLc vs vi g t vf env = (vi env).bind fun ds e => ofM ((lcP g t vf (e.clr vs) ds []).bind frzM) e := rfl
@[simp] theorem vLcN_eq (vs : List Nat) (vi : VI) (g : VG) : vLcN vs vi g t vf env = (vi env).bind fun ds e => ofM ((lcP g t vf (e.clr vs) ds []).map M.lst) e := rfl
@[simp] theorem vTell_eq (K : PySem.W.Frag) (l : List (Addr × D)) (k : M → Env → Rv M) : vTell K l k v env = vTellR K l k (v env) := rfl
@[simp] theorem vTellR_ok (K : PySem.W.Frag) (l : List (Addr × D)) (k : M → Env → Rv M) : vTellR K l k (.ok m e) = k m e := rfl
@[simp] theorem vTellR_ex (K : PySem.W.Frag) (l : List (Addr × D)) (k : M → Env → Rv M) (C : Addr) : vTellR K l k (.ex C e) = vTellX K C l e := rfl
theorem tell_hit {K : PySem.W.Frag} {C C1 : Addr} {r : D} {l : List (Addr × D)} (h : PySem.W.exmOne K (.ref C) (.ref C1) = some true) : vTellX K C ((C1, r) :: l) e = .ok (.val r) e := by simp only [vTellX, h]
theorem tell_miss {K : PySem.W.Frag} {C C1 : Addr} {r : D} {l : List (Addr × D)} (h : PySem.W.exmOne K (.ref C) (.ref C1) = some false) : vTellX K C ((C1, r) :: l) e = vTellX K C l e := by simp only [vTellX, h]
/-! numbers -/
theorem cMul_left {i j : Int} (h1 : -1000000000000 < i) (h2 : i < 1000000000000) : cMul i j = true := by
  simp only [cMul, Bool.or_eq_true, Bool.and_eq_true, decide_eq_true_eq]; exact .inl ⟨by omega, by omega⟩
theorem cMul_right {i j : Int} (h1 : -1000000000000 < j) (h2 : j < 1000000000000) : cMul i j = true := by
  simp only [cMul, Bool.or_eq_true, Bool.and_eq_true, decide_eq_true_eq]; exact .inr ⟨by omega, by omega⟩
theorem rngOk_of {k : Int} (h1 : -1000000000 ≤ k) (h2 : k ≤ 1000000000) : rngOk k = true := by simp [rngOk, h1, h2]
theorem rgOk1_of {k : Int} (h1 : -1000000000 ≤ k) (h2 : k ≤ 1000000) : rgOk1 k = true := by simp [rgOk1, h1, h2]
theorem atI_cast {α : Type} (xs : List α) (j : Nat) : atI xs (j : Int) = xs[j]? := by
  cases h : xs[j]? with
  | some d => exact atI_nat h
  | none =>
    have hl := List.getElem?_eq_none_iff.mp h
    unfold L2.atI ixN
    rw [if_pos (by omega), if_neg (by omega)]
    rfl
theorem ixN_cast {n j : Nat} (h : j < n) : ixN n (j : Int) = some j := by
  unfold ixN
  rw [if_pos (by omega), if_pos (by omega)]
  simp
theorem ixN_last {n : Nat} (h : 0 < n) : ixN n (-1) = some (n - 1) := by
  unfold ixN
  rw [if_neg (by omega), if_pos (by omega)]
  congr 1; omega
theorem atI_last' {α : Type} (xs : List α) : atI xs (-1) = xs[xs.length - 1]? := by
  cases xs with
  | nil => rfl
  | cons a xs => unfold L2.atI; rw [ixN_last (by simp)]; rfl
/-- what a body's end tells the caller -/
def outV (n : Nat) : Vl → Rn
  | .rt m e => .ok m (e.o.take n)
  | .nx e => .ok (.val .non) (e.o.take n)
  | .ex C e => .ex C (e.o.take n)
  | _ => .no
@[simp] theorem outV_rt (n : Nat) : outV n (.rt m e) = .ok m (e.o.take n) := rfl
@[simp] theorem outV_nx (n : Nat) : outV n (.nx e) = .ok (.val .non) (e.o.take n) := rfl
@[simp] theorem outV_ex (n : Nat) (C : Addr) : outV n (.ex C e) = .ex C (e.o.take n) := rfl
theorem runV_eq {n k : Nat} {f : VS} {ms : List M} (h : ms.length = n) : runV n k f ms = outV n (f (startV n k ms)) := by
  unfold runV; rw [if_pos h]; cases f (startV n k ms) <;> rfl
@[simp] theorem runV_0 {f : VS} (k : Nat) : runV 0 k f [] = outV 0 (f ⟨([] : List M).map some ++ List.replicate (k - 0) none, []⟩) := runV_eq (n := 0) (by rfl)
@[simp] theorem runV_1 {f : VS} (k : Nat) (a0 : M) : runV 1 k f [a0] = outV 1 (f ⟨[a0].map some ++ List.replicate (k - 1) none, []⟩) := runV_eq (n := 1) (by rfl)
@[simp] theorem runV_2 {f : VS} (k : Nat) (a0 a1 : M) : runV 2 k f [a0, a1] = outV 2 (f ⟨[a0, a1].map some ++ List.replicate (k - 2) none, []⟩) := runV_eq (n := 2) (by rfl)
@[simp] theorem runV_3 {f : VS} (k : Nat) (a0 a1 a2 : M) : runV 3 k f [a0, a1, a2] = outV 3 (f ⟨[a0, a1, a2].map some ++ List.replicate (k - 3) none, []⟩) := runV_eq (n := 3) (by rfl)
@[simp] theorem runV_4 {f : VS} (k : Nat) (a0 a1 a2 a3 : M) : runV 4 k f [a0, a1, a2, a3] = outV 4 (f ⟨[a0, a1, a2, a3].map some ++ List.replicate (k - 4) none, []⟩) := runV_eq (n := 4) (by rfl)
@[simp] theorem runV_5 {f : VS} (k : Nat) (a0 a1 a2 a3 a4 : M) : runV 5 k f [a0, a1, a2, a3, a4] = outV 5 (f ⟨[a0, a1, a2, a3, a4].map some ++ List.replicate (k - 5) none, []⟩) := runV_eq (n := 5) (by rfl)
@[simp] theorem runV_6 {f : VS} (k : Nat) (a0 a1 a2 a3 a4 a5 : M) : runV 6 k f [a0, a1, a2, a3, a4, a5] = outV 6 (f ⟨[a0, a1, a2, a3, a4, a5].map some ++ List.replicate (k - 6) none, []⟩) := runV_eq (n := 6) (by rfl)
@[simp] theorem runV_7 {f : VS} (k : Nat) (a0 a1 a2 a3 a4 a5 a6 : M) : runV 7 k f [a0, a1, a2, a3, a4, a5, a6] = outV 7 (f ⟨[a0, a1, a2, a3, a4, a5, a6].map some ++ List.replicate (k - 7) none, []⟩) := runV_eq (n := 7) (by rfl)
@[simp] theorem runV_8 {f : VS} (k : Nat) (a0 a1 a2 a3 a4 a5 a6 a7 : M) : runV 8 k f [a0, a1, a2, a3, a4, a5, a6, a7] = outV 8 (f ⟨[a0, a1, a2, a3, a4, a5, a6, a7].map some ++ List.replicate (k - 8) none, []⟩) := runV_eq (n := 8) (by rfl)
@[simp] theorem startV_eq (n k : Nat) (ms : List M) : startV n k ms = ⟨ms.map some ++ List.replicate (k - n) none, []⟩ := rfl
end eqs
/-! places by written numbers -/
section lits
theorem cast_lit (n : Nat) : (no_index (OfNat.ofNat n) : Int) = ((n : Nat) : Int) := rfl
@[simp] theorem atI_lit {α : Type} (xs : List α) (n : Nat) : atI xs (no_index (OfNat.ofNat n) : Int) = xs[n]? := atI_cast xs n
@[simp] theorem atI_m1 {α : Type} (xs : List α) : atI xs (-1) = xs[xs.length - 1]? := atI_last' xs
@[simp] theorem atI_nat' {α : Type} (xs : List α) (n : Nat) : atI xs (n : Int) = xs[n]? := atI_cast xs n
theorem ixN_nat (k n : Nat) : ixN k (n : Int) = if n < k then some n else none := by
  by_cases h : n < k
  · rw [ixN_cast h, if_pos h]
  · unfold ixN
    rw [if_pos (by omega), if_neg (by omega), if_neg h]
@[simp] theorem ixN_lit (k n : Nat) : ixN k (no_index (OfNat.ofNat n) : Int) = if n < k then some n else none := ixN_nat k n
@[simp] theorem ixN_natS (k n : Nat) : ixN k (n : Int) = if n < k then some n else none := ixN_nat k n
@[simp] theorem ixN_m1 (k : Nat) : ixN k (-1) = if 0 < k then some (k - 1) else none := by
  by_cases h : 0 < k
  · rw [ixN_last h, if_pos h]
  · have : k = 0 := by omega
    subst this; rfl
end lits
section data
variable {S : So}
@[simp] theorem gEq_int (i j : Int) : gEq (.int i) (.int j) S = some (.bl (decide (i = j)), S) := by
  rw [gEq_gud (gud_int 0 i) (gud_int 0 j) (by decide), eqq_int]
@[simp] theorem gNe_int (i j : Int) : gNe (.int i) (.int j) S = some (.bl (!decide (i = j)), S) := by
  rw [gNe_gud (gud_int 0 i) (gud_int 0 j) (by decide), eqq_int]
@[simp] theorem gEq_ints (ns ms : List Int) : gEq (.lst (ns.map D.int)) (.lst (ms.map D.int)) S = some (.bl (decide (ns = ms)), S) := eq_ints ns ms S
@[simp] theorem gNe_ints (ns ms : List Int) : gNe (.lst (ns.map D.int)) (.lst (ms.map D.int)) S = some (.bl (!decide (ns = ms)), S) := ne_ints ns ms S
@[simp] theorem gEq_ints0 (ns : List Int) : gEq (.lst (ns.map D.int)) (.lst []) S = some (.bl (decide (ns = [])), S) := eq_ints ns [] S
@[simp] theorem gNe_ints0 (ns : List Int) : gNe (.lst (ns.map D.int)) (.lst []) S = some (.bl (!decide (ns = [])), S) := ne_ints ns [] S
end data
section sets
variable {env : Env} {m m0 : M} {i : Nat} {P : Pl} {v : VE}
def setO (o : Option (Option M)) (p : List Stp) (k : Int) (m : M) (f : M → Env) : Option Env := match o with
  | some (some m0) => match m0.at p with
    | some (.lst ms) => match ixN ms.length k with
      | some j => some (f (m0.wrs p (.lst (ms.set j m))))
      | none => none
    | _ => none
  | _ => none
@[simp] theorem setO_some (p : List Stp) (k : Int) (f : M → Env) : setO (some (some m0)) p k m f = match m0.at p with
    | some (.lst ms) => match ixN ms.length k with
      | some j => some (f (m0.wrs p (.lst (ms.set j m))))
      | none => none
    | _ => none := rfl
@[simp] theorem setAt_eq (p : List Stp) (k : Int) : setAt env i p k m = setO env.o[i]? p k m fun z => env.up i (some z) := rfl
@[simp] theorem tSub_eq : tSub P v m env = match P env with
  | some (i, p) => match env.look i p with
    | some _ => match v env with
      | .ok (.val (.int k)) e1 => setAt e1 i p k m
      | _ => none
    | none => none
  | none => none := rfl
end sets
/-! ### lists of ints that are owned -/
section iml
def iM (ns : List Int) : List M := ns.map fun n => .val (.int n)
@[simp] theorem iM_map (ns : List Int) : (ns.map D.int).map M.val = iM ns := by simp [iM]
@[simp] theorem iM_comp (ns : List Int) : ns.map (M.val ∘ D.int) = iM ns := rfl
@[simp] theorem valsM_comp {α : Type} (f : α → D) (xs : List α) : valsM (xs.map (M.val ∘ f)) = some (xs.map f) := by rw [← List.map_map]; exact valsM_map _
@[simp] theorem valsM_iM (ns : List Int) : valsM (iM ns) = some (ns.map D.int) := valsM_comp D.int ns
@[simp] theorem iM_length (ns : List Int) : (iM ns).length = ns.length := by simp [iM]
@[simp] theorem iM_get (ns : List Int) (k : Nat) : (iM ns)[k]? = (ns[k]?).map fun n => .val (.int n) := by simp [iM]
@[simp] theorem iM_set (ns : List Int) (k : Nat) (x : Int) : (iM ns).set k (.val (.int x)) = iM (ns.set k x) := by simp [iM, List.map_set]
@[simp] theorem iM_snoc (ns : List Int) (x : Int) : iM ns ++ [.val (.int x)] = iM (ns ++ [x]) := by simp [iM]
@[simp] theorem iM_app (ns ms : List Int) : iM ns ++ iM ms = iM (ns ++ ms) := by simp [iM]
@[simp] theorem iM_dropLast (ns : List Int) : (iM ns).dropLast = iM ns.dropLast := by simp [iM, List.map_dropLast]
@[simp] theorem iM_erase : ∀ (ns : List Int) (k : Nat), (iM ns).eraseIdx k = iM (ns.eraseIdx k)
  | [], k => rfl
  | n :: ns, 0 => rfl
  | n :: ns, k + 1 => by show .val (.int n) :: (iM ns).eraseIdx k = .val (.int n) :: iM (ns.eraseIdx k); rw [iM_erase ns k]
@[simp] theorem iM_nil : iM [] = [] := rfl
theorem iM_cons (n : Int) (ns : List Int) : iM (n :: ns) = .val (.int n) :: iM ns := rfl
end iml
/-! ### comprehensions whose turns tell a function -/
section lcs
variable {i : Nat} {c : VT} {f : VE} {env : Env}
theorem lcP_map (h : D → D) : ∀ (ds : List D) (acc : List M), (∀ d ∈ ds, ∃ e, f (env.put i (some (.val d))) = .ok (.val (h d)) e) → acc.length + ds.length < 1000000 → lcP (tName i) vYes f env ds acc = some (acc ++ (ds.map h).map M.val)
  | [], acc, hf, hl => by simp [lcP]
  | d :: ds, acc, hf, hl => by
    obtain ⟨e, he⟩ := hf d (by simp)
    have hl' : acc.length < 1000000 := by simp at hl; omega
    have ih := lcP_map h ds (acc ++ [.val (h d)]) (fun d' hd => hf d' (by simp [hd])) (by simp at hl ⊢; omega)
    simp only [lcP, tName_eq, vYes_eq, he, if_pos hl', ih]
    simp
theorem lcP_filter (p : D → Bool) (h : D → D) : ∀ (ds : List D) (acc : List M), (∀ d ∈ ds, ∃ e, c (env.put i (some (.val d))) = .ok (p d) e) → (∀ d ∈ ds, p d = true → ∃ e, f (env.put i (some (.val d))) = .ok (.val (h d)) e) → acc.length + ds.length < 1000000 → lcP (tName i) c f env ds acc = some (acc ++ ((ds.filter p).map h).map M.val)
  | [], acc, hc, hf, hl => by simp [lcP]
  | d :: ds, acc, hc, hf, hl => by
    obtain ⟨e1, he1⟩ := hc d (by simp)
    have hl' : acc.length < 1000000 := by simp at hl; omega
    cases hp : p d with
    | true =>
      obtain ⟨e, he⟩ := hf d (by simp) hp
      have ih := lcP_filter p h ds (acc ++ [.val (h d)]) (fun d' hd => hc d' (by simp [hd])) (fun d' hd => hf d' (by simp [hd])) (by simp at hl ⊢; omega)
      simp only [lcP, tName_eq, he1, hp, he, if_pos hl', ih]
      simp [hp]
    | false =>
      have ih := lcP_filter p h ds acc (fun d' hd => hc d' (by simp [hd])) (fun d' hd => hf d' (by simp [hd])) (by simp at hl ⊢; omega)
      simp only [lcP, tName_eq, he1, hp, ih]
      simp [hp]
theorem lcP_ex (P : M → Prop) : ∀ (ds : List D) (acc : List M), (∀ d ∈ ds, ∃ y e, f (env.put i (some (.val d))) = .ok y e ∧ P y) → acc.length + ds.length < 1000000 → ∃ ys, ys.length = ds.length ∧ (∀ y ∈ ys, P y) ∧ lcP (tName i) vYes f env ds acc = some (acc ++ ys)
  | [], acc, hf, hl => ⟨[], rfl, by simp, by simp [lcP]⟩
  | d :: ds, acc, hf, hl => by
    obtain ⟨y, e, he, hp⟩ := hf d (by simp)
    have hl' : acc.length < 1000000 := by simp at hl; omega
    obtain ⟨ys, h1, h2, h3⟩ := lcP_ex P ds (acc ++ [y]) (fun d' hd => hf d' (by simp [hd])) (by simp at hl ⊢; omega)
    refine ⟨y :: ys, by simp [h1], fun z hz => ?_, ?_⟩
    · rcases List.mem_cons.mp hz with rfl | hz
      · exact hp
      · exact h2 z hz
    · simp only [lcP, tName_eq, vYes_eq, he, if_pos hl', h3]
      simp
/-- turns that change what is owned, with an invariant -/
theorem lcE_ex (R : VF.Env → Prop) (P : M → Prop) : ∀ (ds : List D) (acc : List M) (e : VF.Env), (∀ d ∈ ds, ∀ e, R e → ∃ y e3, f (e.put i (some (.val d))) = .ok y e3 ∧ P y ∧ R (e3.put i none)) → R e → acc.length + ds.length < 1000000 → ∃ ys e', ys.length = ds.length ∧ (∀ y ∈ ys, P y) ∧ R e' ∧ lcE (tName i) vYes f [i] ds acc e = .ok (acc ++ ys) e'
  | [], acc, e, hf, hr, hl => ⟨[], e, rfl, by simp, hr, by simp [lcE]⟩
  | d :: ds, acc, e, hf, hr, hl => by
    obtain ⟨y, e3, he, hp, hr3⟩ := hf d (by simp) e hr
    have hl' : acc.length < 1000000 := by simp at hl; omega
    obtain ⟨ys, e', h1, h2, h4, h3⟩ := lcE_ex R P ds (acc ++ [y]) (e3.put i none) (fun d' hd => hf d' (by simp [hd])) hr3 (by simp at hl ⊢; omega)
    refine ⟨y :: ys, e', by simp [h1], fun z hz => ?_, h4, ?_⟩
    · rcases List.mem_cons.mp hz with rfl | hz
      · exact hp
      · exact h2 z hz
    · simp only [lcE, tName_eq, vYes_eq, bv_ok, if_true, he, if_pos hl', clr_cons, clr_nil, h3]
      simp
end lcs
end VF

namespace VF
open PySem L2 PF
variable [Tab]
/-! ### loops by what holds between the turns -/
theorem while_to {c : VT} {b : VS} (R : Nat → VF.Env → Prop) (h0 : ∀ e, R 0 e → c e = .ok false e) (hs : ∀ d e, R (d + 1) e → c e = .ok true e ∧ ∃ e2, (b e = .nx e2 ∨ b e = .ct e2) ∧ R d e2) : ∀ (d n : Nat) (e : VF.Env), R d e → d < n → ∃ e', vWhile c b n e = .nx e' ∧ R 0 e'
  | 0, n, e, h, hn => by
    obtain ⟨n, rfl⟩ : ∃ m, n = m + 1 := ⟨n - 1, by omega⟩
    exact ⟨e, by rw [vWhile_succ, h0 e h]; rfl, h⟩
  | d + 1, n, e, h, hn => by
    obtain ⟨n, rfl⟩ : ∃ m, n = m + 1 := ⟨n - 1, by omega⟩
    obtain ⟨h1, e2, h2, h3⟩ := hs d e h
    obtain ⟨e', h4, h5⟩ := while_to R h0 hs d n e2 h3 (by omega)
    refine ⟨e', ?_, h5⟩
    rw [vWhile_succ, h1, tv_ok, if_pos rfl]
    rcases h2 with h2 | h2 <;> rw [h2] <;> exact h4
/-- a loop over items, any target -/
theorem for_to {g : VG} {b : VS} (R : List D → VF.Env → Prop) (hs : ∀ d ds e, R (d :: ds) e → ∃ e1 e2, g (.val d) e = some e1 ∧ (b e1 = .nx e2 ∨ b e1 = .ct e2) ∧ R ds e2) : ∀ (ds : List D) (e : VF.Env), R ds e → ∃ e', forI g b ds e = .nx e' ∧ R [] e'
  | [], e, h => ⟨e, rfl, h⟩
  | d :: ds, e, h => by
    obtain ⟨e1, e2, h1, h2, h3⟩ := hs d ds e h
    obtain ⟨e', h4, h5⟩ := for_to R hs ds e2 h3
    refine ⟨e', ?_, h5⟩
    rw [forI_cons _ _ _ h1]
    rcases h2 with h2 | h2 <;> rw [h2] <;> exact h4
/-- a loop over numbers -/
theorem for_rng {i : Nat} {b : VS} (R : Int → VF.Env → Prop) : ∀ (n : Nat) (a : Int) (e : VF.Env), R a e → (∀ k e, a ≤ k → k < a + n → R k e → ∃ e2, (b (e.put i (some (.val (.int k)))) = .nx e2 ∨ b (e.put i (some (.val (.int k)))) = .ct e2) ∧ R (k + 1) e2) → ∃ e', forI (tName i) b (rgD a n) e = .nx e' ∧ R (a + n) e'
  | 0, a, e, h, hs => ⟨e, rfl, by simpa using h⟩
  | n + 1, a, e, h, hs => by
    obtain ⟨e2, h2, h3⟩ := hs a e (by omega) (by omega) h
    obtain ⟨e', h4, h5⟩ := for_rng R n (a + 1) e2 h3 (fun k e hk hk2 hr => hs k e (by omega) (by omega) hr)
    refine ⟨e', ?_, by rw [show a + ((n + 1 : Nat) : Int) = a + 1 + (n : Int) by omega]; exact h5⟩
    rw [rgD_cons, forI_name]
    rcases h2 with h2 | h2 <;> rw [h2] <;> exact h4
/-! ### cuts -/
theorem cutD_nat (xs : List D) (a b : Nat) (h : a ≤ b) : cutD xs (some (a : Int)) (some (b : Int)) = (xs.drop a).take (b - a) := by
  unfold cutD
  rw [HT.sIx_nat, HT.sIx_nat]
  by_cases c : a ≤ xs.length
  · rw [Nat.min_eq_left c]
    by_cases c2 : b ≤ xs.length
    · rw [Nat.min_eq_left c2]
    · rw [Nat.min_eq_right (by omega), List.take_of_length_le (by simp), List.take_of_length_le (by simp; omega)]
  · rw [Nat.min_eq_right (by omega), List.drop_of_length_le (by omega), List.drop_of_length_le (by omega)]
    simp
theorem cutD_from (xs : List D) (a : Nat) : cutD xs (some (a : Int)) none = xs.drop a := by
  unfold cutD
  rw [HT.sIx_nat]
  show (xs.drop (min a xs.length)).take (xs.length - min a xs.length) = _
  by_cases c : a ≤ xs.length
  · rw [Nat.min_eq_left c, List.take_of_length_le (by simp)]
  · rw [Nat.min_eq_right (by omega), List.drop_of_length_le (by omega), List.drop_of_length_le (by omega)]
    simp
theorem cutD_to (xs : List D) (b : Nat) : cutD xs none (some (b : Int)) = xs.take b := by
  unfold cutD
  rw [HT.sIx_nat]
  show (xs.drop 0).take (min b xs.length - 0) = _
  by_cases c : b ≤ xs.length
  · simp [Nat.min_eq_left c]
  · rw [Nat.min_eq_right (by omega), List.take_of_length_le (by simp), List.take_of_length_le (by omega)]; rfl
theorem cutD_all (xs : List D) : cutD xs none none = xs := by
  unfold cutD
  show (xs.drop 0).take (xs.length - 0) = _
  simp
@[simp] theorem sl_lst (xs : List D) (lo hi : Option Int) : gSl false (.lst xs) lo hi [] = some (.lst (cutD xs lo hi), []) := rfl
@[simp] theorem sl_tup (xs : List D) (lo hi : Option Int) : gSl false (.tup xs) lo hi [] = some (.tup (cutD xs lo hi), []) := rfl
/-! ### tables -/
def tupD (m : List (List Int)) : List D := m.map fun r => D.tup (r.map D.int)
def lstD (m : List (List Int)) : List D := m.map fun r => D.lst (r.map D.int)
theorem tupD_app (a b : List (List Int)) : tupD (a ++ b) = tupD a ++ tupD b := by simp [tupD]
@[simp] theorem tupD_len (a : List (List Int)) : (tupD a).length = a.length := by simp [tupD]
@[simp] theorem lstD_len (a : List (List Int)) : (lstD a).length = a.length := by simp [lstD]
@[simp] theorem tupD_get (a : List (List Int)) (k : Nat) : (tupD a)[k]? = (a[k]?).map fun r => D.tup (r.map D.int) := by simp [tupD]
@[simp] theorem lstD_get (a : List (List Int)) (k : Nat) : (lstD a)[k]? = (a[k]?).map fun r => D.lst (r.map D.int) := by simp [lstD]
theorem lstD_mem {rows : List (List Int)} {d : D} (h : d ∈ lstD rows) : ∃ x, x ∈ rows ∧ d = .lst (x.map D.int) := by
  obtain ⟨x, h1, h2⟩ := List.mem_map.mp h
  exact ⟨x, h1, h2.symm⟩
theorem lstD_cut (rows : List (List Int)) (a n : Nat) : ((lstD rows).drop a).take n = lstD ((rows.drop a).take n) := by
  simp [lstD]
/-- tables that are owned -/
def lM (m : List (List Int)) : List M := m.map fun r => M.lst (iM r)
@[simp] theorem lM_len (m : List (List Int)) : (lM m).length = m.length := by simp [lM]
@[simp] theorem lM_get (m : List (List Int)) (k : Nat) : (lM m)[k]? = (m[k]?).map fun r => M.lst (iM r) := by simp [lM]
theorem lM_app (a b : List (List Int)) : lM (a ++ b) = lM a ++ lM b := by simp [lM]
@[simp] theorem lM_snoc (a : List (List Int)) (r : List Int) : lM a ++ [.lst (iM r)] = lM (a ++ [r]) := by simp [lM]
@[simp] theorem lM_set (a : List (List Int)) (k : Nat) (r : List Int) : (lM a).set k (.lst (iM r)) = lM (a.set k r) := by simp [lM, List.map_set]
theorem augV_mul {env e : VF.Env} {i : Nat} {v : VE} {a b : Int} (h : env.o[i]? = some (some (.val (.int a)))) (hf : v env = .ok (.val (.int b)) e) (hc : cMul a b = true) : vAug i v (gIc cMul fun i j => i * j) env = .nx (e.put i (some (.val (.int (a * b))))) := by
  rw [vAug_eq, h, augV_some, hf, tv_ok, liftG_val, gIc_int, if_pos hc]; rfl
theorem mulL (xs : List D) (n : Nat) (h : xs.length * n ≤ 1000000) (h2 : n ≤ 1000000) : gMul false (.lst xs) (.int (n : Int)) [] = some (.lst (List.replicate n xs).flatten, []) := by
  rw [mul_rep false xs n [] (by omega), if_pos (by omega), newL_f]
theorem mul1 (d : D) (n : Nat) (h2 : n ≤ 1000000) : gMul false (.lst [d]) (.int (n : Int)) [] = some (.lst (List.replicate n d), []) := by
  rw [mulL [d] n (by simp; omega) h2]
  congr 3
  induction n with
  | zero => rfl
  | succ n ih => rw [List.replicate_succ, List.flatten_cons, ih (by omega)]; rfl
section lcb
variable {j i : Nat} {c : VT} {f : VE} {env : VF.Env}
theorem lcB_map (h : M → D) : ∀ (ms acc : List M), (∀ m ∈ ms, ∃ e, f (env.bor j i m) = .ok (.val (h m)) e) → acc.length + ms.length < 1000000 → lcB j i vYes f env ms acc = some (acc ++ (ms.map h).map M.val)
  | [], acc, hf, hl => by simp [lcB]
  | m :: ms, acc, hf, hl => by
    obtain ⟨e, he⟩ := hf m (by simp)
    have hl' : acc.length < 1000000 := by simp at hl; omega
    have ih := lcB_map h ms (acc ++ [.val (h m)]) (fun d' hd => hf d' (by simp [hd])) (by simp at hl ⊢; omega)
    simp only [lcB, vYes_eq, he, if_pos hl', ih]
    simp
end lcb
/-- looks at what is borrowed -/
@[simp] theorem vLb_bor (env : VF.Env) (j i : Nat) (m : M) : vLb j (env.bor j i m) = ofM (lookM m) (env.bor j i m) := by
  simp [vLb, Env.bor]
end VF

namespace VF
open PySem L2 PF
variable [Tab]
/-! ### equality of data -/
section eqs
variable {n : Nat} {S : So} {a b : D}
@[simp] theorem gud_int' (i : Int) : gud n (.int i) := gud_int n i
@[simp] theorem gud_non' : gud n .non := gud_non n
@[simp] theorem gud_bl' (b : Bool) : gud n (.bl b) := gud_bl n b
@[simp] theorem gud_str' (s : Str) : gud n (.str s) ↔ PyData.strOk s = true := ⟨fun ⟨x, h1, h2, h3⟩ => by cases h1; exact h2, fun h => ⟨_, rfl, h, Nat.zero_le _⟩⟩
@[simp] theorem gud_lst' (ds : List D) : gud (n + 1) (.lst ds) ↔ guds n ds := ⟨fun ⟨x, h1, h2, h3⟩ => by
  simp only [pd0] at h1
  cases h : pds ds with
  | none => rw [h] at h1; cases h1
  | some r =>
    rw [h] at h1; cases h1
    exact ⟨r, h, by simpa [PyData.canLay0] using h2, by simp only [PyData.depth] at h3; omega⟩, gud_lst⟩
@[simp] theorem gud_tup' (ds : List D) : gud (n + 1) (.tup ds) ↔ guds n ds := ⟨fun ⟨x, h1, h2, h3⟩ => by
  simp only [pd0] at h1
  cases h : pds ds with
  | none => rw [h] at h1; cases h1
  | some r =>
    rw [h] at h1; cases h1
    exact ⟨r, h, by simpa [PyData.canLay0] using h2, by simp only [PyData.depth] at h3; omega⟩, gud_tup⟩
@[simp] theorem guds_nil' : guds n [] := guds_nil n
@[simp] theorem guds_cons' (d : D) (ds : List D) : guds n (d :: ds) ↔ gud n d ∧ guds n ds := ⟨fun ⟨x, h1, h2, h3⟩ => by
  simp only [pds] at h1
  cases h : pd0 d with
  | none => rw [h] at h1; cases h1
  | some r =>
    cases hs : pds ds with
    | none => rw [h, hs] at h1; cases h1
    | some q =>
      rw [h, hs] at h1; cases h1
      simp only [PyData.canLayAll0, Bool.and_eq_true] at h2
      simp only [PyData.depthAll] at h3
      exact ⟨⟨r, h, h2.1, by omega⟩, ⟨q, hs, h2.2, by omega⟩⟩, fun h => guds_cons h.1 h.2⟩
@[simp] theorem guds_ints' (ns : List Int) : guds n (ns.map D.int) := guds_ints n ns
@[simp] theorem guds_tupD (m : List (List Int)) : guds (n + 1) (tupD m) := guds_all fun d h => by
  obtain ⟨r, _, rfl⟩ := List.mem_map.mp h
  simp
@[simp] theorem guds_lstD (m : List (List Int)) : guds (n + 1) (lstD m) := guds_all fun d h => by
  obtain ⟨r, _, rfl⟩ := List.mem_map.mp h
  simp
@[simp] theorem gEq_g (h : gud 64 a) (k : gud 64 b) : gEq a b S = some (.bl (eqq a b), S) := gEq_gud h k (Nat.le_refl _)
@[simp] theorem gNe_g (h : gud 64 a) (k : gud 64 b) : gNe a b S = some (.bl (!eqq a b), S) := gNe_gud h k (Nat.le_refl _)
@[simp] theorem eqq_int' (i j : Int) : eqq (.int i) (.int j) = decide (i = j) := eqq_int i j
@[simp] theorem eqq_str (i j : Str) : eqq (.str i) (.str j) = decide (i = j) := by
  simp only [eqq, pd0, PyData.eqv, Bool.beq_eq_decide_eq]
@[simp] theorem eqq_is (i : Int) (s : Str) : eqq (.int i) (.str s) = false := by simp only [eqq, pd0, PyData.eqv]
@[simp] theorem eqq_si (i : Int) (s : Str) : eqq (.str s) (.int i) = false := by simp only [eqq, pd0, PyData.eqv]
@[simp] theorem eqq_nn' : eqq .non .non = true := rfl
@[simp] theorem eqq_ni' (i : Int) : eqq .non (.int i) = false := eqq_ni i
@[simp] theorem eqq_in' (i : Int) : eqq (.int i) .non = false := eqq_in i
@[simp] theorem eqq_ns (s : Str) : eqq .non (.str s) = false := by simp only [eqq, pd0, PyData.eqv]
@[simp] theorem eqq_sn (s : Str) : eqq (.str s) .non = false := by simp only [eqq, pd0, PyData.eqv]
@[simp] theorem eqq_bb (x y : Bool) : eqq (.bl x) (.bl y) = decide (x = y) := by
  simp only [eqq, pd0, PyData.eqv, Bool.beq_eq_decide_eq]
@[simp] theorem eqq_tn' (ds : List D) : eqq (.tup ds) .non = false := eqq_tn ds
@[simp] theorem eqq_nt' (ds : List D) : eqq .non (.tup ds) = false := eqq_nt ds
@[simp] theorem eqq_ts (ds : List D) (s : Str) : eqq (.tup ds) (.str s) = false := by
  simp only [eqq, pd0]; cases pds ds <;> simp only [PyData.eqv]
@[simp] theorem eqq_ls (ds : List D) (s : Str) : eqq (.lst ds) (.str s) = false := by
  simp only [eqq, pd0]; cases pds ds <;> simp only [PyData.eqv]
@[simp] theorem eqq_tt' (xs ys : List D) : eqq (.tup xs) (.tup ys) = eqqs xs ys := eqq_tt xs ys
@[simp] theorem eqq_ll' (xs ys : List D) : eqq (.lst xs) (.lst ys) = eqqs xs ys := eqq_ll xs ys
@[simp] theorem eqqs_nn' : eqqs [] [] = true := rfl
@[simp] theorem eqqs_cc' (x y : D) (xs ys : List D) : eqqs (x :: xs) (y :: ys) = (eqq x y && eqqs xs ys) := eqqs_cc x y xs ys
@[simp] theorem eqqs_nc (y : D) (ys : List D) : eqqs [] (y :: ys) = false := by
  simp only [eqqs, pds]
  cases pd0 y with
  | none => rfl
  | some a => cases pds ys with
    | none => rfl
    | some b => simp only [PyData.eqvAll]
@[simp] theorem eqqs_cn (y : D) (ys : List D) : eqqs (y :: ys) [] = false := by
  simp only [eqqs, pds]
  cases pd0 y with
  | none => rfl
  | some a => cases pds ys with
    | none => rfl
    | some b => simp only [PyData.eqvAll]
@[simp] theorem eqqs_ints' (ns ms : List Int) : eqqs (ns.map D.int) (ms.map D.int) = decide (ns = ms) := eqqs_ints ns ms
@[simp] theorem eqqs_ints0 (ns : List Int) : eqqs (ns.map D.int) [] = decide (ns = []) := eqqs_ints ns []
@[simp] theorem eqqs_0ints (ns : List Int) : eqqs [] (ns.map D.int) = decide ([] = ns) := eqqs_ints [] ns
theorem eqqs_tupD : ∀ (a b : List (List Int)), eqqs (tupD a) (tupD b) = decide (a = b)
  | [], [] => rfl
  | [], y :: ys => by rw [show tupD [] = [] from rfl, show tupD (y :: ys) = .tup (y.map D.int) :: tupD ys from rfl]; simp
  | y :: ys, [] => by rw [show tupD [] = [] from rfl, show tupD (y :: ys) = .tup (y.map D.int) :: tupD ys from rfl]; simp
  | x :: xs, y :: ys => by
    rw [show tupD (x :: xs) = .tup (x.map D.int) :: tupD xs from rfl, show tupD (y :: ys) = .tup (y.map D.int) :: tupD ys from rfl]
    simp [eqqs_tupD xs ys]
theorem eqqs_lstD : ∀ (a b : List (List Int)), eqqs (lstD a) (lstD b) = decide (a = b)
  | [], [] => rfl
  | [], y :: ys => by rw [show lstD [] = [] from rfl, show lstD (y :: ys) = .lst (y.map D.int) :: lstD ys from rfl]; simp
  | y :: ys, [] => by rw [show lstD [] = [] from rfl, show lstD (y :: ys) = .lst (y.map D.int) :: lstD ys from rfl]; simp
  | x :: xs, y :: ys => by
    rw [show lstD (x :: xs) = .lst (x.map D.int) :: lstD xs from rfl, show lstD (y :: ys) = .lst (y.map D.int) :: lstD ys from rfl]
    simp [eqqs_lstD xs ys]
end eqs
@[simp] theorem ok_none : PyData.strOk "none" = true := by decide +kernel
@[simp] theorem ok_range : PyData.strOk "range" = true := by decide +kernel
@[simp] theorem ok_open : PyData.strOk "open" = true := by decide +kernel
@[simp] theorem ok_held : PyData.strOk "held" = true := by decide +kernel
@[simp] theorem ok_tree : PyData.strOk "tree" = true := by decide +kernel
@[simp] theorem ok_marks : PyData.strOk "marks" = true := by decide +kernel
@[simp] theorem ok_key : PyData.strOk "key" = true := by decide +kernel
@[simp] theorem ok_full : PyData.strOk "full" = true := by decide +kernel
@[simp] theorem ok_due : PyData.strOk "due" = true := by decide +kernel
@[simp] theorem ok_done : PyData.strOk "done" = true := by decide +kernel
@[simp] theorem ok_bad_tree : PyData.strOk "bad tree" = true := by decide +kernel
@[simp] theorem ok_undone : PyData.strOk "undone" = true := by decide +kernel
@[simp] theorem ok_empty : PyData.strOk "empty" = true := by decide +kernel
@[simp] theorem ok_not_rising : PyData.strOk "not rising" = true := by decide +kernel
@[simp] theorem ok_no_order : PyData.strOk "no order" = true := by decide +kernel
@[simp] theorem ok_no_room : PyData.strOk "no room" = true := by decide +kernel
@[simp] theorem ok_no_span : PyData.strOk "no span" = true := by decide +kernel
@[simp] theorem ok_too_large : PyData.strOk "too large" = true := by decide +kernel
@[simp] theorem ok_no_group : PyData.strOk "no group" = true := by decide +kernel
@[simp] theorem ok_no_word : PyData.strOk "no word" = true := by decide +kernel
@[simp] theorem ne_none_range : (("none" : Str) = "range") = False := eq_false (by decide +kernel)
@[simp] theorem ne_range_none : (("range" : Str) = "none") = False := eq_false (by decide +kernel)
example : gNe (.str "range") (.str "range") [] = some (.bl false, []) := by simp
example : gNe (.str "range") (.str "none") [] = some (.bl true, []) := by simp
example : gNe (.lst []) (.lst []) [] = some (.bl false, []) := by simp
end VF

namespace VF
open PySem L2 PF
variable [Tab]
/-! ### instances by values -/
theorem lookup_at {x : Str} {e : D} : ∀ {fs : List (Str × D)} {k : Nat}, fs[k]? = some (x, e) → (∀ j, j < k → ∀ y, fs[j]? = some y → y.1 ≠ x) → fs.lookup x = some e
  | [], k, h, _ => by simp at h
  | (y, d) :: fs, 0, h, _ => by
    simp at h
    obtain ⟨rfl, rfl⟩ := h
    simp
  | (y, d) :: fs, k + 1, h, hn => by
    have hy := hn 0 (by omega) (y, d) rfl
    have hb : (x == y) = false := by
      cases q : x == y with
      | false => rfl
      | true => exact absurd (beq_iff_eq.mp q).symm hy
    simp only [List.lookup, hb]
    exact lookup_at (by simpa using h) (fun j hj z hz => hn (j + 1) (by omega) z (by simpa using hz))
theorem lookup_no {x : Str} : ∀ {fs : List (Str × D)}, x ∉ fs.map (·.1) → fs.lookup x = none
  | [], _ => rfl
  | (y, d) :: fs, h => by
    have hb : (x == y) = false := by
      cases q : x == y with
      | false => rfl
      | true => exact absurd (by simp [beq_iff_eq.mp q]) h
    simp only [List.lookup, hb]
    exact lookup_no fun q => h (by simp at q ⊢; exact .inr q)
section plc
variable {s : Bool} {f fo : FE} {P : Pl} {C : Addr} {x m : Str} {k : Nat}
/-- a field of an instance -/
def pFld (C : Addr) (k : Nat) (x : Str) (P : Pl) : Pl := fun env => match P env with
  | some (i, p) => some (i, p ++ [.fld C k x])
  | none => none
theorem sp_fld (C : Addr) (k : Nat) (x : Str) (h : SimP s f P) : SimP false (fFld C x f) (pFld C k x P) := by
  refine ⟨fun env en S As i p m he nd hP hl => ?_, fun z => (by cases z)⟩
  unfold pFld at hP
  split at hP
  · rename_i i0 p0 hP0
    simp only [Option.some.injEq, Prod.mk.injEq] at hP
    obtain ⟨rfl, rfl⟩ := hP
    obtain ⟨m1, hl0, q2⟩ := look_app hl
    obtain ⟨J, d0, d, h1, h2, h3⟩ := h.run env en S As i0 p0 _ he nd hP0 hl0
    obtain ⟨m0, d0', A, g1, g2, g3, g4, g5⟩ := look_rep he hl0
    rw [h2] at g2; cases g2
    obtain ⟨e, A1, A', A2, k1, k2, k3, k4⟩ := at_rep g4 g5
    have := h3.det k1
    subst this
    obtain ⟨c, B1, B', B2, c1, c2, c3, c4⟩ := sub_rep k3 q2
    refine ⟨J, d0, c, ?_, h2, PathR.snoc h3 c1⟩
    obtain ⟨n, fs, rfl, e2, e3, e4⟩ := c1
    have hn : (S ++ J)[n]? = some (.ins C fs) := by rw [get_app (List.getElem?_eq_some_iff.mp e2).1]; exact e2
    have hi : insAt (S ++ J) C (.ref n) = some (n, fs) := by simp [insAt, hn]
    show (f en S).bind _ = _
    rw [h1]
    simp only [Rs.bind, hi, lookup_at e3 e4]
  · cases hP
/-- the receiver is there -/
theorem meth_eq {F : FN} {fa : FA} {env : Env} {en : En} {S : So} {As : List (List Nat)} {i : Nat} {p : List Stp} {ns : List Str} {ms : List M} (hp : SimP s fo P) (he : EnvR S env en As) (nd : Nd As.flatten) (hP : P env = some (i, p)) (hl : env.look i p = some (.ins C ns ms)) (hm : m ∉ ns) :
    fMeth C m F fo fa en S = fCall F (fCons fo fa) en S := by
  obtain ⟨J, d0, d, h1, h2, h3⟩ := hp.run env en S As i p _ he nd hP hl
  obtain ⟨m0, d0', A, g1, g2, g3, g4, g5⟩ := look_rep he hl
  rw [h2] at g2; cases g2
  obtain ⟨e, A1, A', A2, k1, k2, k3, k4⟩ := at_rep g4 g5
  have := h3.det k1
  subst this
  unfold Rep at k3
  obtain ⟨n, fs, B, rfl, w1, w2, w3, w4, w5⟩ := k3
  have hn : (S ++ J)[n]? = some (.ins C fs) := by rw [get_app (List.getElem?_eq_some_iff.mp w1).1]; exact w1
  have hi : insAt (S ++ J) C (.ref n) = some (n, fs) := by simp [insAt, hn]
  have hlk : fs.lookup m = none := lookup_no fun q => hm (by rw [w3] at q; exact List.mem_of_mem_take q)
  unfold fMeth fCall fCons
  rw [h1]
  simp only [Rs.bind, hi, hlk, if_true]
  cases fa en (S ++ J) <;> rfl
/-- a method -/
def vMeth (C : Addr) (m : Str) (V : VN) (P : Pl) (w : Env → Rv (List Ar)) : VE := fun env => match P env with
  | some (i, p) => match env.look i p with
    | some (.ins C' ns _) => if C' = C ∧ m ∉ ns then vCall V (wPl P w) env else .no
    | _ => .no
  | none => .no
theorem se_meth {qq pa : Bool} {I : List Nat} {F : FN} {V : VN} {n : Nat} {ks : List Bool} {fa : FA} {w : Env → Rv (List Ar)} (hF : NSim qq I F V) (hn : ∀ ms, ms.length ≠ n → V ms = .no) (hp : SimP s fo P) (hw : SimI pa ks fa w) (hk : ∀ k, (true :: ks)[k]? = some true → k ∈ I) (hx : (s || pa) = true := by rfl) :
    SimE false true (fMeth C m (F.len n) fo fa) (vMeth C m V P w) := ⟨fun env en S As he nd => by
  unfold vMeth
  split
  · rename_i i p hP
    split
    · rename_i C' ns ms hl
      split
      · rename_i hc
        obtain ⟨rfl, hm⟩ := hc
        rw [meth_eq hp he nd hP hl hm]
        exact (se_call hF hn (si_pl hp hw hx) hk).run env en S As he nd
      · exact trivial
    · exact trivial
  · exact trivial⟩
/-- a method that changes nothing -/
def vMethR (C : Addr) (m : Str) (V : VN) (P : Pl) (w : Env → Rv (List Ar)) : VE := fun env => match P env with
  | some (i, p) => match env.look i p with
    | some (.ins C' ns _) => if C' = C ∧ m ∉ ns then vCallR V (wPl P w) env else .no
    | _ => .no
  | none => .no
theorem se_methR {pa : Bool} {I : List Nat} {F : FN} {V : VN} {n : Nat} {ks : List Bool} {fa : FA} {w : Env → Rv (List Ar)} (hF : NSim true I F V) (hn : ∀ ms, ms.length ≠ n → V ms = .no) (hp : SimP s fo P) (hw : SimI pa ks fa w) (hk : ∀ k, (true :: ks)[k]? = some true → k ∈ I) (hx : (s || pa) = true := by rfl) :
    SimE pa true (fMeth C m (F.len n) fo fa) (vMethR C m V P w) := ⟨fun env en S As he nd => by
  unfold vMethR
  split
  · rename_i i p hP
    split
    · rename_i C' ns ms hl
      split
      · rename_i hc
        obtain ⟨rfl, hm⟩ := hc
        rw [meth_eq hp he nd hP hl hm]
        exact (se_callR hF hn (si_pl hp hw hx) hk).run env en S As he nd
      · exact trivial
    · exact trivial
  · exact trivial⟩
end plc
/-- C(..): the new instance, its names ns -/
def mkV (r : Rn) (e : Env) : Rv M := match r with
  | .ok (.val .non) os => (match os[0]? with
    | some (some m) => .ok m e
    | _ => .no)
  | .ex E _ => .ex E e
  | _ => .no
def vMake (C : Addr) (ns : List Str) (V : VN) (w : VA) : VE := fun env => (w env).bind fun ms e => mkV (V (.ins C ns [] :: ms)) e
theorem se_make {qq p : Bool} {I : List Nat} {F : FN} {V : VN} {n : Nat} {C : Addr} {ns : List Str} {fa : FA} {w : VA} (hF : NSim qq I F V) (hn : ∀ ms, ms.length ≠ n → V ms = .no) (h0 : 0 ∈ I) (hns : ns.Nodup) (hw : SimA p fa w) : SimE false true (fMake C (F.len n) fa) (vMake C ns V w) := by
  have := SimR.bind (R2 := RE true) (p2 := false) (k := fun ds en S1 => match FN.len F n (.ref S1.length :: ds) (S1 ++ [.ins C []]) with
    | .ok .non S2 => .ok (.ref S1.length) S2
    | .ex E S2 => .ex E S2
    | _ => .no) (kv := fun ms e => mkV (V (.ins C ns [] :: ms)) e) hw fun ms ds env en S As B he r nd => by
    have r1 : Reps (S ++ [.ins C []]) (.ins C ns [] :: ms) (.ref S.length :: ds) ([S.length] ++ B) := by
      refine Reps.cons ?_ r.more
      unfold Rep
      exact ⟨S.length, [], [], rfl, by simp, hns, rfl, Reps.nil, rfl⟩
    have hB : ∀ z ∈ B, z < S.length := r.lt
    have nd1 : Nd ([S.length] ++ B) := (Nd.one _).app nd.right fun z hz q => by
      simp at hz; subst hz
      have := hB _ q; omega
    have q := (hF.len hn).run _ _ _ _ r1 nd1
    have hAs : ∀ z ∈ As.flatten, z < S.length := he.lt
    have same : ∀ {S' : So} {A : List Nat}, Fr (S ++ [.ins C []]) ([S.length] ++ B) S' A → ∀ z ∈ As.flatten, S'[z]? = S[z]? := fun h z hz => by
      rw [h.same z (by have := hAs z hz; simp; omega) (fun q => by
        simp only [List.mem_append, List.mem_singleton] at q
        rcases q with q | q
        · have := hAs z hz; omega
        · exact nd.not hz q), get_app (hAs z hz)]
    have frw : ∀ {S' : So} {A : List Nat}, Fr (S ++ [.ins C []]) ([S.length] ++ B) S' A → Fr S (As.flatten ++ B) S' (As.flatten ++ A) := fun h => by
      refine ⟨Nat.le_trans (by simp) h.len, fun z hz hq => ?_, fun z hz => ?_⟩
      · rw [h.same z (by simp; omega) (fun q => by
          simp only [List.mem_append, List.mem_singleton] at q
          rcases q with q | q
          · omega
          · exact hq (by simp [q])), get_app hz]
      · rcases List.mem_append.mp hz with hz | hz
        · exact .inl (by simp [hz])
        · rcases h.new z hz with q | q
          · simp only [List.mem_append, List.mem_singleton] at q
            rcases q with q | q
            · exact .inr (by omega)
            · exact .inl (by simp [q])
          · exact .inr (by simp at q; omega)
    have dsj : ∀ {S' : So} {A : List Nat}, Fr (S ++ [.ins C []]) ([S.length] ++ B) S' A → Nd A → Nd (As.flatten ++ A) := fun h ha => nd.left.app ha fun z hz q => by
      rcases h.new z q with q | q
      · simp only [List.mem_append, List.mem_singleton] at q
        rcases q with q | q
        · have := hAs z hz; omega
        · exact nd.not hz q
      · have := hAs z hz
        simp at q; omega
    show SimAt _ _ _ _ _ _ _ (mkV (V (.ins C ns [] :: ms)) env)
    cases hv : V (.ins C ns [] :: ms) with
    | no => exact trivial
    | ex E os =>
      rw [hv] at q
      obtain ⟨S', Bs, g1, g2, g4, g5, _⟩ := q
      rw [g1]
      exact ⟨S', As, rfl, he.frame (same g5), nd.left, (frw g5).sub fun z hz => by simp [hz], fun z => by cases z⟩
    | ok m os =>
      rw [hv] at q
      obtain ⟨d, S', Bs, B', g1, g2, g3, g4, g5, _⟩ := q
      cases m with
      | val x =>
        cases x with
        | non =>
          obtain ⟨rfl, _, rfl⟩ := rep_val0 g3
          rw [g1]
          have key : ∀ mm, os[0]? = some (some mm) → SimAt (RE true) false S env en (As.flatten ++ B) (Rs.ok (.ref S.length) S') (Rv.ok mm env) := by
            intro mm hos
            obtain ⟨dd, BB, w1, w2, w3⟩ := g2 0 h0 mm hos
            simp at w1
            subst w1
            have hsub : ∀ z ∈ BB, z ∈ Bs.flatten := fun z hz => List.mem_flatten.mpr ⟨BB, List.mem_of_getElem? w2, hz⟩
            have ndB : Nd BB := g4.left.le fun a => by
              have := List.getElem?_eq_some_iff.mp w2
              obtain ⟨hl, rfl⟩ := this
              have hc : ∀ (L : List (List Nat)) (j : Nat) (h : j < L.length), (L[j]).count a ≤ L.flatten.count a := by
                intro L
                induction L with
                | nil => intro j h; simp at h
                | cons y L ih =>
                  intro j h
                  cases j with
                  | zero => simp [List.count_append]
                  | succ j =>
                    have := ih j (by simp at h; omega)
                    simp only [List.getElem_cons_succ, List.flatten_cons, List.count_append]
                    omega
              exact hc Bs 0 hl
            refine ⟨.ref S.length, S', As, BB, rfl, he.frame (same g5), w3, ?_, ?_, fun z => by cases z⟩
            · exact dsj (g5.sub fun z hz => by simp [hsub z hz]) ndB
            · exact (frw g5).sub fun z hz => by
                rcases List.mem_append.mp hz with hz | hz
                · simp [hz]
                · simp [hsub z hz]
          show SimAt (RE true) false S env en (As.flatten ++ B) (Rs.ok (D.ref S.length) S') (match os[0]? with
            | some (some m) => .ok m env
            | _ => .no)
          cases hos : os[0]? with
          | none => exact trivial
          | some oo =>
            cases oo with
            | none => exact trivial
            | some mm => exact key mm hos
        | _ => exact trivial
      | _ => exact trivial
  rw [Bool.and_false] at this
  exact this
end VF

namespace VF
open PySem L2 PF
variable [Tab]
/-! ### a field is set -/
theorem putD_new {x : Str} {d : D} : ∀ {fs : List (Str × D)}, x ∉ fs.map (·.1) → putD x d fs = fs ++ [(x, d)]
  | [], _ => rfl
  | (y, e) :: fs, h => by
    have hy : ¬ y = x := fun q => h (by simp [q])
    simp only [putD, if_neg hy, List.cons_append]
    rw [putD_new fun q => h (by simp at q ⊢; exact .inr q)]
theorem putD_at {x : Str} {d : D} : ∀ {fs : List (Str × D)} {k : Nat} {e : D}, fs[k]? = some (x, e) → (∀ j, j < k → ∀ y, fs[j]? = some y → y.1 ≠ x) → putD x d fs = fs.set k (x, d)
  | [], k, e, h, _ => by simp at h
  | (y, c) :: fs, 0, e, h, _ => by
    simp at h
    obtain ⟨rfl, rfl⟩ := h
    simp [putD]
  | (y, c) :: fs, k + 1, e, h, hn => by
    have hy := hn 0 (by omega) (y, c) rfl
    simp only [putD, if_neg hy, List.set_cons_succ]
    rw [putD_at (by simpa using h) (fun j hj z hz => hn (j + 1) (by omega) z (by simpa using hz))]
def setM (ms : List M) (k : Nat) (m : M) : List M := if k = ms.length then ms ++ [m] else ms.set k m
theorem put_rep {S S2 : So} {x : Str} {dv : D} {m : M} {B B0 : List Nat} {ns : List Str} {fs : List (Str × D)} {ms : List M} {k : Nat} (hr : Reps S ms (fs.map (·.2)) B0) (hns : ns.Nodup) (hf : fs.map (·.1) = ns.take fs.length) (hx : ns[k]? = some x) (hk : k ≤ ms.length) (r : Rep S2 m dv B) (fr : ∀ n ∈ B0, S2[n]? = S[n]?) :
    ∃ B1, Reps S2 (setM ms k m) ((putD x dv fs).map (·.2)) B1 ∧ (putD x dv fs).map (·.1) = ns.take (putD x dv fs).length ∧ (∀ a, B1.count a ≤ B0.count a + B.count a) ∧ ∀ a ∈ B1, a ∈ B0 ∨ a ∈ B := by
  have hlen : ms.length = fs.length := by simpa using hr.length
  unfold setM
  by_cases c : k = ms.length
  · rw [if_pos c]
    have hno : x ∉ fs.map (·.1) := fun q => by
      rw [hf] at q
      obtain ⟨j, hj⟩ := List.getElem?_of_mem q
      rw [List.getElem?_take] at hj
      split at hj
      · exact nodup_take_ne hns hx hj (by omega) rfl
      · cases hj
    rw [putD_new hno]
    refine ⟨B0 ++ (B ++ []), ?_, ?_, fun a => by simp, fun a ha => by simpa using ha⟩
    · rw [List.map_append]
      exact (hr.frame fr).append (Reps.cons r Reps.nil)
    · rw [List.map_append, hf, List.length_append]
      have : ns.take (fs.length + 1) = ns.take fs.length ++ [x] := by rw [List.take_succ, ← hlen, ← c, hx]; rfl
      simpa using this.symm
  · rw [if_neg c]
    have hkl : k < ms.length := by omega
    obtain ⟨e, A1, A', A2, g1, rfl, g3, g4⟩ := Reps.at hr (List.getElem?_eq_getElem hkl)
    have hk2 : k < fs.length := by omega
    have hfk : fs[k]? = some (x, e) := by
      rw [List.getElem?_map, List.getElem?_eq_getElem hk2] at g1
      have e2 : (fs.map (·.1))[k]? = some x := by rw [hf, List.getElem?_take, if_pos hk2]; exact hx
      rw [List.getElem?_map, List.getElem?_eq_getElem hk2] at e2
      rw [List.getElem?_eq_getElem hk2]
      simp only [Option.map_some, Option.some.injEq] at g1 e2
      rw [← g1, ← e2]
    have hbefore : ∀ j, j < k → ∀ y, fs[j]? = some y → y.1 ≠ x := fun j hj y hy => by
      have hjl : j < fs.length := by omega
      have e2 : (fs.map (·.1))[j]? = ns[j]? := by rw [hf, List.getElem?_take, if_pos hjl]
      rw [List.getElem?_map, hy] at e2
      exact nodup_take_ne hns hx e2.symm hj
    rw [putD_at hfk hbefore]
    refine ⟨A1 ++ B ++ A2, ?_, ?_, fun a => by simp only [List.count_append]; omega, fun a ha => by simp only [List.mem_append] at ha ⊢; rcases ha with (ha | ha) | ha <;> simp [ha]⟩
    · have := g4 S2 m dv B (fun n hn => fr n (by simp only [List.mem_append] at hn ⊢; rcases hn with hn | hn <;> simp [hn])) r
      rw [List.map_set]; exact this
    · rw [List.map_set, List.length_set, hf]
      refine set_self ?_
      rw [List.getElem?_take, if_pos hk2]; exact hx
/-- o.x = m -/
def setF (C : Addr) (k : Nat) (x : Str) (env : Env) (i : Nat) (p : List Stp) (m : M) : Option Env := match env.o[i]? with
  | some (some m0) => match m0.at p with
    | some (.ins C' ns ms) => if C' = C ∧ ns[k]? = some x ∧ k ≤ ms.length ∧ ms.length < 1000 then some (env.up i (some (m0.wrs p (.ins C ns (setM ms k m))))) else none
    | _ => none
  | _ => none
def tFld (C : Addr) (k : Nat) (x : Str) (P : Pl) : VG := fun m env => match P env with
  | some (i, p) => setF C k x env i p m
  | none => none
theorem set_fld {S : So} {env : Env} {en : En} {As : List (List Nat)} {i : Nat} {p : List Stp} {d0 d dv : D} {m : M} {B : List Nat} {k : Nat} {x : Str} {C : Addr} {e' : Env} (he : EnvR S env en As) (h0 : en[i]? = some (some d0)) (hp : PathR S p d0 d) (r : Rep S m dv B) (nd : Nd (As.flatten ++ B)) (h : setF C k x env i p m = some e') :
    ∃ n fs As', insAt S C d = some (n, fs) ∧ fs.length < 1000 ∧ EnvR (S.set n (.ins C (putD x dv fs))) e' en As' ∧ Nd As'.flatten ∧ Fr S (As.flatten ++ B) (S.set n (.ins C (putD x dv fs))) As'.flatten := by
  unfold setF at h
  split at h
  · rename_i m0 hm0
    split at h
    · rename_i C' ns ms hms
      split at h
      · rename_i hc
        obtain ⟨rfl, hx, hk, hl⟩ := hc
        cases h
        obtain ⟨d0', A, g1, g2, g3⟩ := at_var he hm0
        rw [h0] at g1; cases g1
        obtain ⟨e, A1, A', A2, k1, rfl, k3, k4⟩ := at_rep g3 hms
        have := hp.det k1
        subst this
        unfold Rep at k3
        obtain ⟨n, fs, B0, rfl, w1, w2, w3, w4, rfl⟩ := k3
        have hlen : ms.length = fs.length := by simpa using w4.length
        have hcnt : ∀ a, (As.set i []).flatten.count a + (A1 ++ (n :: B0) ++ A2).count a = As.flatten.count a := fun a => by
          have := count_set As i _ [] a g2
          simpa using this
        have ndAll : Nd (n :: ((As.set i []).flatten ++ (A1 ++ A2 ++ B0 ++ B))) := nd.le fun a => by
          have := hcnt a
          simp only [List.count_append, List.count_cons] at this ⊢
          omega
        have hnn := mem_nd ndAll
        have hnl : n < S.length := (List.getElem?_eq_some_iff.mp w1).1
        have fr : ∀ q, q ≠ n → (S.set n (.ins C' (putD x dv fs)))[q]? = S[q]? := fun q hq => List.getElem?_set_ne (fun z => hq z.symm)
        have ne : ∀ q, q ∈ (As.set i []).flatten ++ (A1 ++ A2 ++ B0 ++ B) → q ≠ n := fun q hq z => hnn (z ▸ hq)
        obtain ⟨B1, b1, b2, b3, b4⟩ := put_rep (S2 := S.set n (.ins C' (putD x dv fs))) w4 w2 w3 hx hk (r.frame fun q hq => fr q (ne q (by simp [hq]))) (fun q hq => fr q (ne q (by simp [hq])))
        have rep1 : Rep (S.set n (.ins C' (putD x dv fs))) (.ins C' ns (setM ms k m)) (.ref n) (n :: B1) := by
          unfold Rep
          exact ⟨n, putD x dv fs, B1, rfl, by rw [List.getElem?_set_self hnl], w2, b2, b1, rfl⟩
        have rep2 := k4 (S.set n (.ins C' (putD x dv fs))) (.ins C' ns (setM ms k m)) _ (fun q hq => fr q (ne q (by simp only [List.mem_append] at hq ⊢; rcases hq with hq | hq <;> simp [hq]))) rep1
        refine ⟨n, fs, (As.set i []).set i (A1 ++ (n :: B1) ++ A2), by simp [insAt, w1], by omega, ?_, ?_, ?_⟩
        · have he0 : EnvR S (env.up i none) en (As.set i []) := he.up i h0 (show SlotR S none (some d0) [] from rfl)
          have he1 : EnvR (S.set n (.ins C' (putD x dv fs))) (env.up i none) en (As.set i []) := he0.frame fun q hq => fr q (ne q (by simp only [List.mem_append]; exact .inl hq))
          have he2 := he1.up i h0 (slot_some rep2)
          have ee : (env.up i none).up i (some (m0.wrs p (.ins C' ns (setM ms k m)))) = env.up i (some (m0.wrs p (.ins C' ns (setM ms k m)))) := by
            unfold Env.up Env.kill
            simp [List.set_set, List.filter_filter]
          rw [ee] at he2
          exact he2
        · exact ndAll.le fun a => by
            have h1 := count_set_le (As.set i []) i (A1 ++ (n :: B1) ++ A2) a
            have h2 := b3 a
            simp only [List.count_append, List.count_cons] at h1 ⊢
            omega
        · refine ⟨by simp, fun q hl hq => fr q (fun z => hq ?_), fun q hq => .inl ?_⟩
          · subst z
            simp only [List.mem_append]
            exact .inl (List.mem_flatten.mpr ⟨_, List.mem_of_getElem? g2, by simp⟩)
          · have hA : ∀ q ∈ A1 ++ (n :: B0) ++ A2, q ∈ As.flatten := fun q hq => List.mem_flatten.mpr ⟨_, List.mem_of_getElem? g2, hq⟩
            rcases mem_set_flat hq with q1 | q1
            · exact List.mem_append.mpr (.inl ((mem_set_flat q1).elim id (by intro z; cases z)))
            · simp only [List.mem_append, List.mem_cons] at q1 ⊢
              rcases q1 with (q1 | q1 | q1) | q1
              · exact .inl (hA q (by simp [q1]))
              · exact .inl (hA q (by simp [q1]))
              · rcases b4 q q1 with q2 | q2
                · exact .inl (hA q (by simp [q2]))
                · exact .inr q2
              · exact .inl (hA q (by simp [q1]))
      · cases h
    · cases h
  · cases h
theorem sg_fld {s : Bool} {I : List Nat} {fo : FE} {P : Pl} (C : Addr) (k : Nat) (x : Str) (hp : SimP s fo P) : SimG false I (gtFld C x fo) (tFld C k x P) := ⟨fun m dv B env en S As he r nd => by
  unfold tFld
  cases hP : P env with
  | none => exact trivial
  | some q =>
    obtain ⟨i, p⟩ := q
    dsimp only
    cases hs : setF C k x env i p m with
    | none => exact trivial
    | some e' =>
      have hl : ∃ y, env.look i p = some y := by
        unfold setF at hs
        unfold Env.look
        split at hs
        · rename_i m0 hm0
          try rw [hm0]
          split at hs
          · rename_i C' ns ms hms
            exact ⟨_, hms⟩
          · cases hs
        · cases hs
      obtain ⟨y, hl⟩ := hl
      obtain ⟨J, d0, d, h1, h2, h3⟩ := hp.run env en S As i p y he nd.left hP hl
      obtain ⟨n, fs, As', w0, w1, w2, w3, w4⟩ := set_fld (he.more (J := J)) h2 h3.more (r.more (J := J)) nd hs
      refine ⟨en, (S ++ J).set n (.ins C (putD x dv fs)), As', ?_, w2, w3, ?_, Kp.refl, Mo.no⟩
      · simp only [gtFld, h1, w0, if_pos w1]
      · have f1 : Fr S (As.flatten ++ B) (S ++ J) (As.flatten ++ B) := Fr.more
        exact f1.trans w4⟩
end VF

namespace VF
open PySem L2 PF
variable [Tab]
/-! ### range with a step -/
section r3
variable {pa : Bool} {gs : FA} {ws : VA}
theorem nrs_rg3 (i j c : Int) : nrs (rg3 i j c) = true := nrs_all fun d hd => by
  obtain ⟨i, _, rfl⟩ := List.mem_map.mp hd; rfl
def rng3M : Option (List Int) → Option (List D)
  | some [i, j, c] => if rg3Ok i j c = true then some (rg3 i j c) else none
  | _ => none
def viRng3 (va : VA) : VI := fun env => (va env).bind fun ms e => ofI2 (rng3M (intsM ms)) e
theorem sf_rng3 (ha : SimAV pa gs ws) (h1 : ∀ env ms e, ws env = .ok ms e → ms.length = 3) : SimF pa true (fiRng3 gs) (viRng3 ws) := by
  refine ⟨fun env en S As he nd => ?_⟩
  have q := ha.run env en S As he nd
  unfold viRng3
  cases hw : ws env with
  | no => exact trivial
  | ex C e =>
    rw [hw] at q
    obtain ⟨S', As', e1, e2, e3, e4, e5⟩ := q
    exact ⟨S', As', by simp [fiRng3, e1], e2, e3, e4, e5⟩
  | ok ms e =>
    rw [hw] at q
    obtain ⟨ds, S', As', B, e1, e2, e3, e4, e5, e6⟩ := q
    show SimAt _ _ _ _ _ _ _ (ofI2 (rng3M (intsM ms)) e)
    have hl := h1 env ms e hw
    cases hi : intsM ms with
    | none => exact trivial
    | some ns =>
      have hm := intsM_eq hi
      rw [hm] at e3 hl
      have hd := rav_ints e3
      match ns with
      | [i, j, c] =>
        simp only [rng3M]
        by_cases hj : rg3Ok i j c = true
        · rw [if_pos hj]
          refine ⟨.items (rg3 i j c), S', As', [], ?_, e2, ⟨rfl, nrs_rg3 _ _ _, .inl rfl⟩, by simpa using e4.left, e5.sub (fun n hn => by simp at hn ⊢; exact .inl hn), e6⟩
          unfold fiRng3
          rw [e1, hd]
          show (if rg3Ok i j c = true then _ else _) = _
          rw [if_pos hj]
        · rw [if_neg hj]; exact trivial
      | [] => simp at hl
      | [_] => simp at hl
      | [_, _] => simp at hl
      | _ :: _ :: _ :: _ :: _ => simp at hl
@[simp] theorem viRng3_eq {env : Env} : viRng3 ws env = (ws env).bind fun ms e => ofI2 (rng3M (intsM ms)) e := rfl
@[simp] theorem rng3M_3 (i j c : Int) : rng3M (some [i, j, c]) = if rg3Ok i j c = true then some (rg3 i j c) else none := rfl
end r3
end VF

namespace VF
open PySem L2 PF
variable [Tab]
/-! ### raise C(e) -/
section rs
variable {p : Bool} {I : List Nat} {fa : FA} {wa : VA} {C : Addr}
def vRaiseE (C : Addr) (wa : VA) : VS := fun env => vthen (wa env) fun ms e => if ms.length = 1 then .ex C e else .no
theorem ss_raiseE (h : SimAV p fa wa) : SimS p I (fRaiseE C fa) (vRaiseE C wa) := ⟨fun env en S As he nd => by
  have := SimAt.then (q := true) (I := I) (k := fun ds S1 => if ds.length = 1 then Fl.ex C en S1 else .no) (kv := fun ms e => if ms.length = 1 then Vl.ex C e else .no) (h.run env en S As he nd) fun a b env1 S1 As1 B he1 r1 nd1 => by
    by_cases c : a.length = 1
    · rw [if_pos c, if_pos (by rw [← r1.2.1]; exact c)]
      exact ⟨en, S1, As1, rfl, he1, nd1.left, Fr.refl.sub (fun n hn => by simp [hn]), Kp.refl, Mo.refl⟩
    · rw [if_neg c]; exact trivial
  rw [Bool.and_true] at this
  exact this⟩
@[simp] theorem vRaiseE_eq {env : Env} : vRaiseE C wa env = vthen (wa env) fun ms e => if ms.length = 1 then .ex C e else .no := rfl
end rs
/-! ### texts with instances run -/
section eqs
variable {env : Env} {C : Addr} {k : Nat} {x m : Str} {P : Pl} {V : VN} {w : Env → Rv (List Ar)} {wa : VA} {i : Nat}
def plS (o : Option (Nat × List Stp)) (s : Stp) : Option (Nat × List Stp) := match o with
  | some (i, p) => some (i, p ++ [s])
  | none => none
@[simp] theorem plS_some (p : List Stp) (s : Stp) : plS (some (i, p)) s = some (i, p ++ [s]) := rfl
@[simp] theorem pFld_eq : pFld C k x P env = plS (P env) (.fld C k x) := rfl
def inS (o : Option M) (C : Addr) (m : Str) (r : Rv M) : Rv M := match o with
  | some (.ins C' ns _) => if C' = C ∧ m ∉ ns then r else .no
  | _ => .no
@[simp] theorem inS_ins (C' : Addr) (ns : List Str) (ms : List M) (r : Rv M) : inS (some (.ins C' ns ms)) C m r = if C' = C ∧ m ∉ ns then r else .no := rfl
def meS (o : Option (Nat × List Stp)) (env : Env) (C : Addr) (m : Str) (r : Rv M) : Rv M := match o with
  | some (i, p) => inS (env.look i p) C m r
  | none => .no
@[simp] theorem meS_some (p : List Stp) (r : Rv M) : meS (some (i, p)) env C m r = inS (env.look i p) C m r := rfl
@[simp] theorem vMeth_eq : vMeth C m V P w env = meS (P env) env C m (vCall V (wPl P w) env) := by
  unfold vMeth meS
  cases P env with
  | none => rfl
  | some q =>
    obtain ⟨i, p⟩ := q
    dsimp only
    unfold inS
    rfl
@[simp] theorem vMethR_eq : vMethR C m V P w env = meS (P env) env C m (vCallR V (wPl P w) env) := by
  unfold vMethR meS
  cases P env with
  | none => rfl
  | some q =>
    obtain ⟨i, p⟩ := q
    dsimp only
    unfold inS
    rfl
@[simp] theorem mkV_ok (mm : M) (os : List (Option M)) (e : Env) : mkV (.ok (.val .non) (some mm :: os)) e = .ok mm e := rfl
@[simp] theorem mkV_ex (E : Addr) (os : List (Option M)) (e : Env) : mkV (.ex E os) e = .ex E e := rfl
@[simp] theorem vMake_eq (ns : List Str) : vMake C ns V wa env = (wa env).bind fun ms e => mkV (V (.ins C ns [] :: ms)) e := rfl
def setFo (o : Option (Option M)) (C : Addr) (k : Nat) (x : Str) (p : List Stp) (m : M) (f : M → Env) : Option Env := match o with
  | some (some m0) => match m0.at p with
    | some (.ins C' ns ms) => if C' = C ∧ ns[k]? = some x ∧ k ≤ ms.length ∧ ms.length < 1000 then some (f (m0.wrs p (.ins C ns (setM ms k m)))) else none
    | _ => none
  | _ => none
@[simp] theorem setFo_some (m0 : M) (p : List Stp) (mm : M) (f : M → Env) : setFo (some (some m0)) C k x p mm f = match m0.at p with
    | some (.ins C' ns ms) => if C' = C ∧ ns[k]? = some x ∧ k ≤ ms.length ∧ ms.length < 1000 then some (f (m0.wrs p (.ins C ns (setM ms k mm)))) else none
    | _ => none := rfl
@[simp] theorem setF_eq (p : List Stp) (mm : M) : setF C k x env i p mm = setFo env.o[i]? C k x p mm fun z => env.up i (some z) := rfl
@[simp] theorem tFld_eq (mm : M) : tFld C k x P mm env = match P env with
  | some (i, p) => setF C k x env i p mm
  | none => none := rfl
@[simp] theorem wrs_fld (C' : Addr) (ns : List Str) (ms : List M) (p : List Stp) (m2 : M) : M.wrs (.fld C k x :: p) (.ins C' ns ms) m2 = if C' = C ∧ ns[k]? = some x then (match ms[k]? with
    | some m' => .ins C' ns (ms.set k (M.wrs p m' m2))
    | none => .ins C' ns ms) else .ins C' ns ms := by
  simp only [M.wrs, M.sub]
  by_cases h : C' = C ∧ ns[k]? = some x
  · rw [if_pos h, if_pos h]
    cases ms[k]? <;> rfl
  · rw [if_neg h, if_neg h]
@[simp] theorem wrs_ix (j : Nat) (ms : List M) (p : List Stp) (m2 : M) : M.wrs (.ix j :: p) (.lst ms) m2 = match ms[j]? with
    | some m' => .lst (ms.set j (M.wrs p m' m2))
    | none => .lst ms := by
  simp only [M.wrs, M.sub]
  cases ms[j]? <;> rfl
end eqs
end VF

namespace VF
open PySem L2 PF
variable [Tab]
theorem nrs_rows : ∀ rs : List (List Int), nrs (rs.map rowD) = true
  | [] => by simp [nrs]
  | r :: rs => by
    rw [List.map_cons]
    simp only [nrs, rowD, nr, Bool.and_eq_true]
    exact ⟨nrs_ints r, nrs_rows rs⟩
theorem sorted_none {S : So} {xs ds : List D} (h : VwDs S xs ds) (q : gSorted false xs [] = none) : gSorted false ds S = none := by
  cases ds with
  | nil => rfl
  | cons d ds =>
    cases ds with
    | cons e ds => rfl
    | nil =>
      cases xs with
      | nil => cases h
      | cons x xs =>
        cases xs with
        | cons y xs =>
          obtain ⟨d', r, e, h1, e', r2, e2, h2, _⟩ := h
          cases e; cases e2
        | nil =>
          obtain ⟨d', e, h1⟩ := vwds1 h
          cases e
          unfold gSorted at q ⊢
          simp only [ls_vw h1]
          simp only at q
          cases e1 : lsOf [] x with
          | none => rfl
          | some xs =>
            rw [e1] at q
            simp only at q ⊢
            cases e2 : intsOf xs with
            | none => rfl
            | some ns => rw [e2] at q; cases q
theorem cv_sortR : CallV (gSortR false) := ⟨fun S xs ds r T h q => by
  unfold gSortR at q
  split at q
  · obtain ⟨d, rfl, h1⟩ := vwds1 h
    unfold gSortR
    simp only [sq_vw h1]
    split at q
    · split at q
      · simp only [newL_f, Option.some.injEq, Prod.mk.injEq] at q ⊢
        obtain ⟨rfl, _⟩ := q
        exact ⟨⟨rfl, trivial⟩, by simp only [nr]; exact nrs_rows _⟩
      · cases q
    · cases q
  · cases q⟩
theorem cv_sortA : CallV (gSortA false) := ⟨fun S xs ds r T h q => by
  unfold gSortA at q ⊢
  cases h1 : gSorted false xs [] with
  | some y =>
    rw [h1] at q
    cases q
    obtain ⟨e1, e2⟩ := cv_sorted.run S xs ds r T h h1
    rw [e1]
    exact ⟨rfl, e2⟩
  | none =>
    rw [h1] at q
    rw [sorted_none h h1]
    exact cv_sortR.run S xs ds r T h q⟩
theorem sorted_noneM {S : So} {es : List D} (h : gSorted false es S = none) : gSorted true es S = none := by
  unfold gSorted at h ⊢
  split at h
  · split at h
    · split at h
      · cases h
      · rfl
    · rfl
  · rfl
theorem own_sortR : OwnCall (gSortR false) (gSortR true) := ⟨fun S es ds h => by
  unfold gSortR at h ⊢
  split at h
  · split at h
    · split at h
      · simp only [newL_f, Option.some.injEq, Prod.mk.injEq, D.lst.injEq] at h
        simp only [newL_t, h.1]
      · cases h
    · cases h
  · cases h⟩
theorem own_sortA : OwnCall (gSortA false) (gSortA true) := ⟨fun S es ds h => by
  unfold gSortA at h ⊢
  cases h1 : gSorted false es S with
  | some y =>
    rw [h1] at h
    cases h
    rw [own_sorted.run S es ds h1]
  | none =>
    rw [h1] at h
    rw [sorted_noneM h1]
    exact own_sortR.run S es ds h⟩
end VF

namespace VF
open PySem L2 PF
variable [Tab]
theorem gAdd_lst {xs ys : List D} {S : So} (h : xs.length + ys.length ≤ 1000000) : gAdd false (.lst xs) (.lst ys) S = some (.lst (xs ++ ys), S) := by
  show (if xs.length + ys.length ≤ sizeLine then _ else _) = _
  exact (if_pos (Nat.le_trans h (by decide))).trans rfl
theorem gAdd_tup {xs ys : List D} {S : So} (h : xs.length + ys.length ≤ 1000000) : gAdd false (.tup xs) (.tup ys) S = some (.tup (xs ++ ys), S) := by
  show (if xs.length + ys.length ≤ sizeLine then _ else _) = _
  exact if_pos (Nat.le_trans h (by decide))
theorem gAdd_lst0 {ys : List D} {S : So} (h : ys.length ≤ 1000000) : gAdd false (.lst []) (.lst ys) S = some (.lst ys, S) := by
  rw [gAdd_lst (by simpa using h)]; rfl
@[simp] theorem gSortA_ints (ns : List Int) {S : So} : gSortA false [.lst (ns.map D.int)] S = some (.lst ((isort ns).map D.int), S) := by
  simp only [gSortA, gSorted, lsOf, intsOf_map, newL_f]
end VF

namespace VF
open PySem L2 PF
variable [Tab]
/-- len(x), x a place that holds a list, of owned things too -/
def lenM (m : M) : Option M := match m with
  | .lst ms => some (.val (.int ms.length))
  | _ => none
def vLenP (P : Pl) : VE := fun env => match P env with
  | some (i, p) => match env.look i p with
    | some m => ofM (lenM m) env
    | none => .no
  | none => .no
theorem se_lenP {s : Bool} {f : FE} {P : Pl} (h : SimP s f P) : SimE true true (fCB gLen (fCons f fNil)) (vLenP P) := ⟨fun env en S As he nd => by
  unfold vLenP
  split
  · rename_i i p hP
    cases hl : env.look i p with
    | none => exact trivial
    | some m =>
      obtain ⟨J, d0, d, h1, h2, h3⟩ := h.run env en S As i p m he nd hP hl
      obtain ⟨m0, d0', A, g1, g2, g3, g4, g5⟩ := look_rep he hl
      rw [h2] at g2; cases g2
      obtain ⟨e, A1, A', A2, k1, k2, k3, k4⟩ := at_rep g4 g5
      have := h3.det k1
      subst this
      show SimAt _ _ _ _ _ _ _ (ofM (lenM m) env)
      cases m with
      | lst ms =>
        unfold Rep at k3
        obtain ⟨n, ds, B, rfl, q2, q3, q4⟩ := k3
        have hn : (S ++ J)[n]? = some (.lst ds) := get_app (List.getElem?_eq_some_iff.mp q2).1 |>.trans q2
        have e1 : fCB gLen (fCons f fNil) en S = .ok (.int ds.length) (S ++ J) := by
          simp only [fCB, fCons, fNil, h1, Rs.bind, gLen, hn, ofO]
        show SimAt _ _ _ _ _ _ _ (Rv.ok (M.val (.int ms.length)) env)
        rw [e1, q3.length]
        exact SimAt.ok (B := []) he nd (fun _ h => h) (by unfold RE Rep; exact ⟨rfl, rfl, rfl⟩) (by simpa using nd) (by simp)
      | _ => exact trivial
  · exact trivial⟩
@[simp] theorem lenM_lst (ms : List M) : lenM (.lst ms) = some (.val (.int ms.length)) := rfl
@[simp] theorem vLenP_eq {P : Pl} {env : Env} : vLenP P env = plK (P env) env fun _ _ m => ofM (lenM m) env := by
  unfold vLenP plK
  cases P env with
  | none => rfl
  | some q => obtain ⟨i, p⟩ := q; dsimp only <;> cases env.look i p <;> rfl
end VF

namespace VF
open PySem L2 PF
variable [Tab]
def vDead : VS := fun _ => .no
theorem ss_dead {I : List Nat} {f : FS} : SimS true I f vDead := ⟨fun env en S As he nd => trivial⟩
end VF

namespace VF
open PySem L2 PF
variable [Tab]
def tLst (n : Nat) (g : VGs) : VG := fun m env => match m with
  | .val (.lst ds) => if ds.length = n then g ds env else none
  | _ => none
theorem sg_lst {q : Bool} {I : List Nat} {n : Nat} {gs : FGs} {ws : VGs} (k : SimGs q I gs ws) : SimG q I (gtLst n gs) (tLst n ws) := ⟨fun m d B env en S As he r nd => by
  unfold tLst
  cases m with
  | val y =>
    cases y with
    | lst ds =>
      dsimp only
      by_cases hl : ds.length = n
      · rw [if_pos hl]
        obtain ⟨rfl, h2, rfl⟩ := rep_val r
        have q := k.run ds env en S As he (by simpa [nr] using h2) nd.left
        simp only [gtLst, if_pos hl, List.append_nil]
        exact q
      · rw [if_neg hl]; exact trivial
    | _ => exact trivial
  | _ => exact trivial⟩
@[simp] theorem tLst_eq {env : Env} (n : Nat) (g : VGs) (ds : List D) : tLst n g (.val (.lst ds)) env = if ds.length = n then g ds env else none := rfl
end VF

namespace VF
open PySem L2 PF
variable [Tab]
@[simp] theorem isNon_non : isNon .non = true := rfl
@[simp] theorem isNon_tup (ds : List D) : isNon (.tup ds) = false := rfl
@[simp] theorem isNon_lst (ds : List D) : isNon (.lst ds) = false := rfl
@[simp] theorem isNon_int (i : Int) : isNon (.int i) = false := rfl
@[simp] theorem isNon_str (i : Str) : isNon (.str i) = false := rfl
@[simp] theorem isNon_bl (i : Bool) : isNon (.bl i) = false := rfl
/-- what is told, whatever the names hold -/
def okM : Rn → Option M
  | .ok m _ => some m
  | _ => none
@[simp] theorem okM_ok (m : M) (os : List (Option M)) : okM (.ok m os) = some m := rfl
theorem ex_ok {r : Rn} {m : M} (h : okM r = some m) : ∃ os, r = .ok m os := by
  cases r with
  | ok a os => exact ⟨os, by cases h; rfl⟩
  | ex => cases h
  | no => cases h
end VF

namespace Law
open PySem L2 PF VF
variable [Tab]
def f_is_key : FS :=
  fRet (fAndV (fIsi "int" (fVar 0)) (fAndV (fNotV (fIsi "bool" (fVar 0))) (fChain gLe gLe (fNeg (fC (.int 1000000000))) (fVar 0) (fC (.int 1000000000)))))
def v_is_key : VS :=
  vRet (vAndV (vIsi "int" (vVar 0)) (vAndV (vNotV (vIsi "bool" (vVar 0))) (vChain gLe gLe (vNeg (vC (.int 1000000000))) (vVar 0) (vC (.int 1000000000)))))
set_option maxHeartbeats 4000000 in
theorem s_is_key : SimS true [] (f_is_key) (v_is_key) :=
  ss_ret (se_andV (se_isi (se_var 0)) (se_andV (se_notV (se_isi (se_var 0))) (se_chain opv_le opv_le (se_neg (se_c)) (se_var 0) (se_c))))
def F_is_key : FN := runF ["thing"] (f_is_key)
def V_is_key : VN := runV 1 1 (v_is_key)
theorem n_is_key : NSim true [] (F_is_key) (V_is_key) := nsim_fn (s_is_key)
theorem e_is_key : ∀ ms, ms.length ≠ 1 → V_is_key ms = .no := run_len
def f_check_key (C_BadKey : Addr) (F_is_key : FN) : FS :=
  fIte (fNotT (fTru (fCall (FN.len F_is_key 1) (fCons (fVar 0) (fNil))))) (fRaise C_BadKey) (fNext)
def v_check_key (C_BadKey : Addr) (V_is_key : VN) : VS :=
  vIte (vNotT (vTru (vCallV V_is_key (vCons (vVar 0) (vNil))))) (vRaise C_BadKey) (vNext)
set_option maxHeartbeats 4000000 in
theorem s_check_key {C_BadKey : Addr} {F_is_key : FN} {V_is_key : VN}
    (n_is_key : NSim true [] F_is_key V_is_key) (e_is_key : ∀ ms, ms.length ≠ 1 → V_is_key ms = .no) : SimS true [] (f_check_key C_BadKey F_is_key) (v_check_key C_BadKey V_is_key) :=
  ss_ite (st_not (st_tru (se_callV n_is_key e_is_key (sa_cons (se_var 0) (sa_nil))))) (ss_raise) (ss_next)
def F_check_key (C_BadKey : Addr) : FN := runF ["thing"] (f_check_key C_BadKey F_is_key)
def V_check_key (C_BadKey : Addr) : VN := runV 1 1 (v_check_key C_BadKey V_is_key)
theorem n_check_key (C_BadKey : Addr) : NSim true [] (F_check_key C_BadKey) (V_check_key C_BadKey) := nsim_fn (s_check_key n_is_key e_is_key)
theorem e_check_key (C_BadKey : Addr) : ∀ ms, ms.length ≠ 1 → V_check_key C_BadKey ms = .no := run_len
def f_check_row_b1 (F_check_key : FN) : FS :=
  fExpr (fCall (FN.len F_check_key 1) (fCons (fVar 1) (fNil)))
def f_check_row (F_check_key : FN) : FS :=
  fFor 100000 (fiSeq (fVar 0)) (gtName 1) (f_check_row_b1 F_check_key)
def v_check_row_b1 (V_check_key : VN) : VS :=
  vExpr (vCallV V_check_key (vCons (vVar 1) (vNil)))
def v_check_row (V_check_key : VN) : VS :=
  vFor (viSeq (vVar 0)) (tName 1) (v_check_row_b1 V_check_key)
set_option maxHeartbeats 4000000 in
theorem s_check_row {F_check_key : FN} {V_check_key : VN}
    (n_check_key : NSim true [] F_check_key V_check_key) (e_check_key : ∀ ms, ms.length ≠ 1 → V_check_key ms = .no) : SimS true [] (f_check_row F_check_key) (v_check_row V_check_key) :=
  ss_for (sf_seq (se_var 0)) (sg_name (by decide)) (ss_expr (se_callV n_check_key e_check_key (sa_cons (se_var 1) (sa_nil))))
def F_check_row (C_BadKey : Addr) : FN := runF ["row", "one"] (f_check_row (F_check_key C_BadKey))
def V_check_row (C_BadKey : Addr) : VN := runV 1 2 (v_check_row (V_check_key C_BadKey))
theorem n_check_row (C_BadKey : Addr) : NSim true [] (F_check_row C_BadKey) (V_check_row C_BadKey) := nsim_fn (s_check_row (n_check_key C_BadKey) (e_check_key C_BadKey))
theorem e_check_row (C_BadKey : Addr) : ∀ ms, ms.length ≠ 1 → V_check_row C_BadKey ms = .no := run_len
def f_check_range (C_BadRange : Addr) : FS :=
  fIte (fNotT (fTst (fChain3 gLe gLe gLe (fC (.int 0)) (fVar 0) (fVar 1) (fVar 2)))) (fRaise C_BadRange) (fNext)
def v_check_range (C_BadRange : Addr) : VS :=
  vIte (vNotT (vTst (vChain3 gLe gLe gLe (vC (.int 0)) (vVar 0) (vVar 1) (vVar 2)))) (vRaise C_BadRange) (vNext)
set_option maxHeartbeats 4000000 in
theorem s_check_range {C_BadRange : Addr} : SimS true [] (f_check_range C_BadRange) (v_check_range C_BadRange) :=
  ss_ite (st_not (st_tst (se_chain3 opv_le opv_le opv_le (se_c) (se_var 0) (se_var 1) (se_var 2)))) (ss_raise) (ss_next)
def F_check_range (C_BadRange : Addr) : FN := runF ["low", "high", "many"] (f_check_range C_BadRange)
def V_check_range (C_BadRange : Addr) : VN := runV 3 3 (v_check_range C_BadRange)
theorem n_check_range (C_BadRange : Addr) : NSim true [] (F_check_range C_BadRange) (V_check_range C_BadRange) := nsim_fn (s_check_range)
theorem e_check_range (C_BadRange : Addr) : ∀ ms, ms.length ≠ 3 → V_check_range C_BadRange ms = .no := run_len
def f__law_dice : FS :=
  fSeq (fIte (fTst (fChain gLt gLt (fOp gMinus (fC (.int 0)) (fC (.int 10))) (fVar 0) (fC (.int 10)))) (fRet (fLst true (fCons (fCB gAbs (fCons (fVar 0) (fNil))) (fCons (fC (.int 0)) (fCons (fC (.int 2)) (fNil)))))) (fNext))
    (fRet (fLst true (fCons (fVar 0) (fCons (fOp (gAdd false) (fC (.int 1)) (fOp gMod (fCB gInt (fCons (fVar 0) (fNil))) (fC (.int 1009)))) (fCons (fCB gInt (fCons (fOp gGe (fVar 0) (fOp gPow (fC (.int 10)) (fC (.int 18)))) (fNil))) (fNil))))))
def v__law_dice : VS :=
  vSeq (vIte (vTst (vChain gLt gLt (vOp gMinus (vC (.int 0)) (vC (.int 10))) (vVar 0) (vC (.int 10)))) (vRet (vLstN (vCons (vCB gAbs (vCons (vVar 0) (vNil))) (vCons (vC (.int 0)) (vCons (vC (.int 2)) (vNil)))))) (vNext))
    (vRet (vLstN (vCons (vVar 0) (vCons (vOp (gAdd false) (vC (.int 1)) (vOp gMod (vCB gInt (vCons (vVar 0) (vNil))) (vC (.int 1009)))) (vCons (vCB gInt (vCons (vOp gGe (vVar 0) (vOp gPow (vC (.int 10)) (vC (.int 18)))) (vNil))) (vNil))))))
set_option maxHeartbeats 4000000 in
theorem s__law_dice : SimS true [] (f__law_dice) (v__law_dice) :=
  ss_seq (ss_ite (st_tst (se_chain opv_lt opv_lt (se_op opv_sub (se_c) (se_c)) (se_var 0) (se_c))) (ss_ret (se_lstN (sa_cons (se_cb cv_abs (sav_cons (se_var 0) (sav_nil))) (sa_cons (se_c) (sa_cons (se_c) (sa_nil)))))) (ss_next))
    (ss_ret (se_lstN (sa_cons (se_var 0) (sa_cons (se_op opv_add (se_c) (se_op opv_mod (se_cb cv_int (sav_cons (se_var 0) (sav_nil))) (se_c))) (sa_cons (se_cb cv_int (sav_cons (se_op opv_ge (se_var 0) (se_op opv_pow (se_c) (se_c))) (sav_nil))) (sa_nil))))))
def F__law_dice : FN := runF ["cell"] (f__law_dice)
def V__law_dice : VN := runV 1 1 (v__law_dice)
theorem n__law_dice : NSim true [] (F__law_dice) (V__law_dice) := nsim_fn (s__law_dice)
theorem e__law_dice : ∀ ms, ms.length ≠ 1 → V__law_dice ms = .no := run_len
def f__law_roll : FS :=
  fSeq (fIte (fOrT (fTst (fOp gEq (fOp gIx (fVar 0) (fC (.int 2))) (fC (.int 2)))) (fAndT (fTst (fOp gEq (fOp gIx (fVar 0) (fC (.int 2))) (fC (.int 1)))) (fTst (fOp gGtA (fOp gIx (fVar 0) (fC (.int 0))) (fC (.int 0)))))) (fSeq (fAsg (fOp gMod (fCB gInt (fCons (fOp gIx (fVar 0) (fC (.int 0))) (fNil))) (fVar 1)) (gtName 2))
    (fSeq (fAsg (fOp gFdiv (fOp gIx (fVar 0) (fC (.int 0))) (fVar 1)) (gtSub (fVar 0) (fC (.int 0))))
    (fRet (fVar 2)))) (fNext))
    (fSeq (fAsg (fC (.int 0)) (gtSub (fVar 0) (fC (.int 2))))
    (fSeq (fAsg (fOp gMod (fCB gInt (fCons (fOp (gAdd false) (fOp (gAdd false) (fOp (gMul false) (fOp gIx (fVar 0) (fC (.int 0))) (fC (.int 48271))) (fOp (gMul false) (fOp gIx (fVar 0) (fC (.int 1))) (fC (.int 69621)))) (fC (.int 11))) (fNil))) (fC (.int 2147483647))) (gtSub (fVar 0) (fC (.int 0))))
    (fSeq (fAsg (fOp (gAdd false) (fOp gIx (fVar 0) (fC (.int 1))) (fC (.int 1))) (gtSub (fVar 0) (fC (.int 1))))
    (fRet (fOp gMod (fCB gInt (fCons (fOp (gAdd false) (fOp gFdiv (fOp gIx (fVar 0) (fC (.int 0))) (fC (.int 7))) (fOp gIx (fVar 0) (fC (.int 0)))) (fNil))) (fVar 1))))))
def v__law_roll : VS :=
  vSeq (vIte (vOrT (vTst (vOp gEq (vOp gIx (vLk 0) (vC (.int 2))) (vC (.int 2)))) (vAndT (vTst (vOp gEq (vOp gIx (vLk 0) (vC (.int 2))) (vC (.int 1)))) (vTst (vOp gGtA (vOp gIx (vLk 0) (vC (.int 0))) (vC (.int 0)))))) (vSeq (vAsg (vOp gMod (vCB gInt (vCons (vOp gIx (vLk 0) (vC (.int 0))) (vNil))) (vVar 1)) (tName 2))
    (vSeq (vAsg (vOp gFdiv (vOp gIx (vLk 0) (vC (.int 0))) (vVar 1)) (tSub (pVar 0) (vC (.int 0))))
    (vRet (vVar 2)))) (vNext))
    (vSeq (vAsg (vC (.int 0)) (tSub (pVar 0) (vC (.int 2))))
    (vSeq (vAsg (vOp gMod (vCB gInt (vCons (vOp (gAdd false) (vOp (gAdd false) (vOp (gMul false) (vOp gIx (vLk 0) (vC (.int 0))) (vC (.int 48271))) (vOp (gMul false) (vOp gIx (vLk 0) (vC (.int 1))) (vC (.int 69621)))) (vC (.int 11))) (vNil))) (vC (.int 2147483647))) (tSub (pVar 0) (vC (.int 0))))
    (vSeq (vAsg (vOp (gAdd false) (vOp gIx (vLk 0) (vC (.int 1))) (vC (.int 1))) (tSub (pVar 0) (vC (.int 1))))
    (vRet (vOp gMod (vCB gInt (vCons (vOp (gAdd false) (vOp gFdiv (vOp gIx (vLk 0) (vC (.int 0))) (vC (.int 7))) (vOp gIx (vLk 0) (vC (.int 0)))) (vNil))) (vVar 1))))))
set_option maxHeartbeats 4000000 in
theorem s__law_roll : SimS false [0] (f__law_roll) (v__law_roll) :=
  ss_seq (ss_ite (st_or (st_tst (se_op opv_eq (se_op opv_ix (se_lk 0) (se_c)) (se_c))) (st_and (st_tst (se_op opv_eq (se_op opv_ix (se_lk 0) (se_c)) (se_c))) (st_tst (se_op opv_gtA (se_op opv_ix (se_lk 0) (se_c)) (se_c))))) (ss_seq (ss_asg (se_op opv_mod (se_cb cv_int (sav_cons (se_op opv_ix (se_lk 0) (se_c)) (sav_nil))) (se_var 1)) (sg_name (by decide)))
    (ss_seq (ss_asg (se_op opv_fdiv (se_op opv_ix (se_lk 0) (se_c)) (se_var 1)) (sg_sub (sp_var 0) (se_c)))
    (ss_ret (se_var 2)))) (ss_next))
    (ss_seq (ss_asg (se_c) (sg_sub (sp_var 0) (se_c)))
    (ss_seq (ss_asg (se_op opv_mod (se_cb cv_int (sav_cons (se_op opv_add (se_op opv_add (se_op opv_mul (se_op opv_ix (se_lk 0) (se_c)) (se_c)) (se_op opv_mul (se_op opv_ix (se_lk 0) (se_c)) (se_c))) (se_c)) (sav_nil))) (se_c)) (sg_sub (sp_var 0) (se_c)))
    (ss_seq (ss_asg (se_op opv_add (se_op opv_ix (se_lk 0) (se_c)) (se_c)) (sg_sub (sp_var 0) (se_c)))
    (ss_ret (se_op opv_mod (se_cb cv_int (sav_cons (se_op opv_add (se_op opv_fdiv (se_op opv_ix (se_lk 0) (se_c)) (se_c)) (se_op opv_ix (se_lk 0) (se_c))) (sav_nil))) (se_var 1))))))
def F__law_roll : FN := runF ["dice", "many", "found"] (f__law_roll)
def V__law_roll : VN := runV 2 3 (v__law_roll)
theorem n__law_roll : NSim false [0] (F__law_roll) (V__law_roll) := nsim_fn (s__law_roll)
theorem e__law_roll : ∀ ms, ms.length ≠ 2 → V__law_roll ms = .no := run_len
def f__law_rounds (F__law_dice : FN) : FS :=
  fSeq (fAsg (fSl false (fVar 0) (fNoPart) (fPart (fVar 1))) (gtName 2))
    (fSeq (fIte (fTst (fOp gEq (fVar 2) (fLst false (fNil)))) (fAsg (fLst false (fCons (fC (.int 0)) (fNil))) (gtName 2)) (fNext))
    (fRet (fLc 100000 true [3] (fiSeq (fVar 2)) (gtName 3) (fYes) (fCall (FN.len F__law_dice 1) (fCons (fVar 3) (fNil))))))
def v__law_rounds (V__law_dice : VN) : VS :=
  vSeq (vAsg (vSl (vVar 0) (vNoPart) (vPart (vVar 1))) (tName 2))
    (vSeq (vIte (vTst (vOp gEq (vVar 2) (vLst (vNil)))) (vAsg (vLst (vCons (vC (.int 0)) (vNil))) (tName 2)) (vNext))
    (vRet (vLcN [3] (viSeq (vVar 2)) (tName 3) (vYes) (vCallV V__law_dice (vCons (vVar 3) (vNil))))))
set_option maxHeartbeats 4000000 in
theorem s__law_rounds {F__law_dice : FN} {V__law_dice : VN}
    (n__law_dice : NSim true [] F__law_dice V__law_dice) (e__law_dice : ∀ ms, ms.length ≠ 1 → V__law_dice ms = .no) : SimS true [] (f__law_rounds F__law_dice) (v__law_rounds V__law_dice) :=
  ss_seq (ss_asg (se_sl (se_var 0) (sq_none) (sq_some (se_var 1))) (sg_name (by decide)))
    (ss_seq (ss_ite (st_tst (se_op opv_eq (se_var 2) (se_lst (sa_nil)))) (ss_asg (se_lst (sa_cons (se_c) (sa_nil))) (sg_name (by decide))) (ss_next))
    (ss_ret (se_lcN (sf_seq (se_var 2)) (so_name 3) (st_yes) (se_callV n__law_dice e__law_dice (sa_cons (se_var 3) (sa_nil))))))
def F__law_rounds : FN := runF ["script", "most", "cells", "cell"] (f__law_rounds F__law_dice)
def V__law_rounds : VN := runV 2 4 (v__law_rounds V__law_dice)
theorem n__law_rounds : NSim true [] (F__law_rounds) (V__law_rounds) := nsim_fn (s__law_rounds n__law_dice e__law_dice)
theorem e__law_rounds : ∀ ms, ms.length ≠ 2 → V__law_rounds ms = .no := run_len
def f__law_row (F__law_roll : FN) : FS :=
  fRet (fLc 100000 false [3] (fiRng1 (fCons (fCall (FN.len F__law_roll 2) (fCons (fVar 0) (fCons (fOp (gAdd false) (fVar 1) (fC (.int 1))) (fNil)))) (fNil))) (gtName 3) (fYes) (fOp gMinus (fCall (FN.len F__law_roll 2) (fCons (fVar 0) (fCons (fOp (gAdd false) (fOp (gMul false) (fC (.int 2)) (fVar 2)) (fC (.int 1))) (fNil)))) (fVar 2)))
def v__law_row (V__law_roll : VN) : VS :=
  vRet (vLcE [3] (viRng (vCons (vCall V__law_roll (wPl (pVar 0) (wTm (vOp (gAdd false) (vVar 1) (vC (.int 1))) (wNil)))) (vNil))) (tName 3) (vYes) (vOp gMinus (vCall V__law_roll (wPl (pVar 0) (wTm (vOp (gAdd false) (vOp (gMul false) (vC (.int 2)) (vVar 2)) (vC (.int 1))) (wNil)))) (vVar 2)) frzM)
set_option maxHeartbeats 4000000 in
theorem s__law_row {F__law_roll : FN} {V__law_roll : VN}
    (n__law_roll : NSim false [0] F__law_roll V__law_roll) (e__law_roll : ∀ ms, ms.length ≠ 2 → V__law_roll ms = .no) : SimS false [0] (f__law_row F__law_roll) (v__law_row V__law_roll) :=
  ss_ret (se_lcE (sf_rng1 (sav_cons (se_call n__law_roll e__law_roll (si_pl (sp_var 0) (si_tm (se_op opv_add (se_var 1) (se_c)) (si_nil))) (pl_ok rfl)) (sav_nil)) (len_cons len_nil)) (so_name 3) (st_yes) (se_op opv_sub (se_call n__law_roll e__law_roll (si_pl (sp_var 0) (si_tm (se_op opv_add (se_op opv_mul (se_c) (se_var 2)) (se_c)) (si_nil))) (pl_ok rfl)) (se_var 2)))
def F__law_row : FN := runF ["dice", "most", "wide", "k"] (f__law_row F__law_roll)
def V__law_row : VN := runV 3 4 (v__law_row V__law_roll)
theorem n__law_row : NSim false [0] (F__law_row) (V__law_row) := nsim_fn (s__law_row n__law_roll e__law_roll)
theorem e__law_row : ∀ ms, ms.length ≠ 3 → V__law_row ms = .no := run_len
end Law

namespace Law
open PySem L2 PF VF
variable [Tab]
/-! ### what the laws' own helpers tell -/
def dM (a b c : Int) : M := .lst [.val (.int a), .val (.int b), .val (.int c)]
theorem V_dice_eq (c : Int) : ∃ x y z os, V__law_dice [.val (.int c)] = .ok (dM x y z) os := by
  unfold V__law_dice
  by_cases h : -10 < c ∧ c < 10
  · exact ⟨if c < 0 then -c else c, 0, 2, [some (.val (.int c))], by simp [v__law_dice, h.1, h.2, dM]⟩
  · refine ⟨c, 1 + c % 1009, if 1000000000000000000 ≤ c then 1 else 0, [some (.val (.int c))], ?_⟩
    by_cases h1 : -10 < c
    · have h2 : ¬ c < 10 := fun q => h ⟨h1, q⟩
      simp [v__law_dice, h1, h2, dM]
    · simp [v__law_dice, h1, dM]
theorem V_roll_eq (a b c n : Int) (h0 : 0 < n) (h1 : n < 1073741824) : ∃ r a' b' c', 0 ≤ r ∧ r < n ∧ V__law_roll [dM a b c, .val (.int n)] = .ok (.val (.int r)) [some (dM a' b' c'), some (.val (.int n))] := by
  unfold V__law_roll
  have gen : ¬ c = 2 → ¬ (c = 1 ∧ 0 < a) → ∃ r a' b' c', 0 ≤ r ∧ r < n ∧ runV 2 3 v__law_roll [dM a b c, .val (.int n)] = .ok (.val (.int r)) [some (dM a' b' c'), some (.val (.int n))] := by
    intro h2 h3
    have m1 : ∀ x : Int, cMul x 48271 = true := fun x => cMul_right (by decide) (by decide)
    have m2 : ∀ x : Int, cMul x 69621 = true := fun x => cMul_right (by decide) (by decide)
    refine ⟨((a * 48271 + b * 69621 + 11) % 2147483647 / 7 + (a * 48271 + b * 69621 + 11) % 2147483647) % n, (a * 48271 + b * 69621 + 11) % 2147483647, b + 1, 0, Int.emod_nonneg _ (by omega), Int.emod_lt_of_pos _ h0, ?_⟩
    by_cases h4 : c = 1
    · have h5 : ¬ 0 < a := fun q => h3 ⟨h4, q⟩
      subst h4
      simp [v__law_roll, dM, h0, h1, h5, m1, m2]
    · simp [v__law_roll, dM, h0, h1, h2, h4, m1, m2]
  by_cases h2 : c = 2
  · subst h2
    refine ⟨a % n, a / n, b, 2, Int.emod_nonneg _ (by omega), Int.emod_lt_of_pos _ h0, ?_⟩
    simp [v__law_roll, dM, h0, h1]
  · by_cases h3 : c = 1 ∧ 0 < a
    · obtain ⟨rfl, h3⟩ := h3
      refine ⟨a % n, a / n, b, 1, Int.emod_nonneg _ (by omega), Int.emod_lt_of_pos _ h0, ?_⟩
      simp [v__law_roll, dM, h0, h1, h3]
    · exact gen h2 h3
/-- a roll in a text -/
theorem roll_call {o : List (Option M)} {i : Nat} {a b c n : Int} {va : VE} (hi : o[i]? = some (some (dM a b c))) (hv : va ⟨o, []⟩ = .ok (.val (.int n)) ⟨o, []⟩) (h0 : 0 < n) (h1 : n < 1073741824) :
    ∃ r a' b' c', 0 ≤ r ∧ r < n ∧ vCall V__law_roll (wPl (pVar i) (wTm va wNil)) ⟨o, []⟩ = .ok (.val (.int r)) ⟨o.set i (some (dM a' b' c')), []⟩ := by
  obtain ⟨r, a', b', c', h2, h3, h4⟩ := V_roll_eq a b c n h0 h1
  refine ⟨r, a', b', c', h2, h3, ?_⟩
  simp [hi, hv, h4]
theorem cut_ints (ns : List Int) (lo hi : Option Int) : ∃ ms : List Int, cutD (ns.map D.int) lo hi = ms.map D.int ∧ ms.length ≤ ns.length := by
  refine ⟨(ns.drop (HT.sIx ns.length 0 lo)).take (HT.sIx ns.length ns.length hi - HT.sIx ns.length 0 lo), ?_, ?_⟩
  · simp [cutD, List.map_take, List.map_drop]
  · simp; omega
@[simp] theorem sl_scr (ns : List Int) (lo hi : Option Int) : gSl false (.scr ns) lo hi [] = some (.lst (cutD (ns.map D.int) lo hi), []) := rfl
theorem V_rounds_eq (ns : List Int) (most : Int) (hl : ns.length ≤ 63) : ∃ ds os, (∀ m ∈ ds, ∃ a b c, m = dM a b c) ∧ ds.length ≤ 1000 ∧ V__law_rounds [.val (.scr ns), .val (.int most)] = .ok (.lst ds) os := by
  unfold V__law_rounds
  obtain ⟨ms, h1, h2⟩ := cut_ints ns none (some most)
  have key : ∀ (ks : List Int) (o : List (Option M)), ks.length ≤ 63 → ∃ ys : List M, ys.length = ks.length ∧ (∀ y ∈ ys, ∃ a b c, y = dM a b c) ∧ lcP (tName 3) vYes (vCallV V__law_dice (vCons (vVar 3) vNil)) ⟨[some (.val (.scr ns)), some (.val (.int most)), some (.val (.lst (ks.map D.int))), none], []⟩ (ks.map D.int) [] = some ys := by
    intro ks o hk
    obtain ⟨ys, g1, g2, g3⟩ := lcP_ex (i := 3) (f := vCallV V__law_dice (vCons (vVar 3) vNil)) (env := ⟨[some (.val (.scr ns)), some (.val (.int most)), some (.val (.lst (ks.map D.int))), none], []⟩) (fun m => ∃ a b c, m = dM a b c) (ks.map D.int) [] (fun d hd => by
      obtain ⟨c, _, rfl⟩ := List.mem_map.mp hd
      obtain ⟨x, y, z, os, h⟩ := V_dice_eq c
      exact ⟨dM x y z, ⟨[some (.val (.scr ns)), some (.val (.int most)), some (.val (.lst (ks.map D.int))), some (.val (.int c))], []⟩, by simp [h], x, y, z, rfl⟩) (by simp; omega)
    exact ⟨ys, by simpa using g1, g2, by simpa using g3⟩
  by_cases hm : ms = []
  · subst hm
    obtain ⟨ys, g1, g2, g3⟩ := key [0] [] (by simp)
    simp only [List.map_cons, List.map_nil] at g3
    refine ⟨ys, [some (.val (.scr ns)), some (.val (.int most))], g2, by rw [g1]; simp, ?_⟩
    have e0 : gEq (.lst []) (.lst []) [] = some (.bl true, []) := gEq_ints0 []
    simp [v__law_rounds, h1, e0, g3]
  · obtain ⟨ys, g1, g2, g3⟩ := key ms [] (by omega)
    refine ⟨ys, [some (.val (.scr ns)), some (.val (.int most))], g2, by rw [g1]; omega, ?_⟩
    simp [v__law_rounds, h1, hm, g3]
/-- the numbers of a drawn row -/
theorem V_row_eq (a b c : Int) (most wide : Nat) (hm : most ≤ 1000) (hw : wide ≤ 1000) : ∃ (ns : List Int) (a' b' c' : Int), ns.length ≤ most ∧ (∀ x ∈ ns, -(wide : Int) ≤ x ∧ x ≤ wide) ∧
    V__law_row [dM a b c, .val (.int most), .val (.int wide)] = .ok (.val (.lst (ns.map D.int))) [some (dM a' b' c'), some (.val (.int most)), some (.val (.int wide))] := by
  unfold V__law_row
  obtain ⟨r, a1, b1, c1, h1, h2, h3⟩ := V_roll_eq a b c ((most : Int) + 1) (by omega) (by omega)
  have m2 : cMul 2 (wide : Int) = true := cMul_left (by decide) (by decide)
  obtain ⟨ys, e', g1, g2, ⟨a2, b2, c2, rfl⟩, g4⟩ := lcE_ex (i := 3) (f := vOp gMinus (vCall V__law_roll (wPl (pVar 0) (wTm (vOp (gAdd false) (vOp (gMul false) (vC (.int 2)) (vVar 2)) (vC (.int 1))) (wNil)))) (vVar 2))
    (fun e => ∃ a b c, e = ⟨[some (dM a b c), some (.val (.int most)), some (.val (.int wide)), none], []⟩) (fun m => ∃ x : Int, m = .val (.int x) ∧ -(wide : Int) ≤ x ∧ x ≤ wide) (rgD 0 r.toNat) [] ⟨[some (dM a1 b1 c1), some (.val (.int most)), some (.val (.int wide)), none], []⟩ (fun d hd e he => by
      obtain ⟨a, b, c, rfl⟩ := he
      obtain ⟨r, a', b', c', h4, h5, h6⟩ := V_roll_eq a b c (2 * (wide : Int) + 1) (by omega) (by omega)
      refine ⟨.val (.int (r - wide)), ⟨[some (dM a' b' c'), some (.val (.int most)), some (.val (.int wide)), some (.val d)], []⟩, by simp [m2, h6], ⟨r - wide, rfl, by omega, by omega⟩, a', b', c', rfl⟩) ⟨a1, b1, c1, rfl⟩ (by simp [rgD]; omega)
  have hys : ∃ ns : List Int, ys = (ns.map D.int).map M.val ∧ (∀ x ∈ ns, -(wide : Int) ≤ x ∧ x ≤ wide) := by
    clear g1 g4
    induction ys with
    | nil => exact ⟨[], rfl, by simp⟩
    | cons y ys ih =>
      obtain ⟨x, rfl, hx⟩ := g2 y (by simp)
      obtain ⟨ns, rfl, hn⟩ := ih (fun z hz => g2 z (by simp [hz]))
      exact ⟨x :: ns, rfl, fun z hz => by
        rcases List.mem_cons.mp hz with rfl | hz
        · exact hx
        · exact hn z hz⟩
  obtain ⟨ns, rfl, hn⟩ := hys
  have hlen : ns.length = r.toNat := by simpa [rgD] using g1
  refine ⟨ns, a2, b2, c2, by omega, hn, ?_⟩
  have hr : rngOk r = true := rngOk_of (by omega) (by omega)
  rw [List.nil_append, iM_map] at g4
  simp [v__law_row, vLcE, h3, hr, g4]
/-- keys -/
def inKey (n : Int) : Prop := -1000000000 ≤ n ∧ n ≤ 1000000000
theorem V_is_key_eq (n : Int) (h : inKey n) : V_is_key [.val (.int n)] = .ok (.val (.bl true)) [some (.val (.int n))] := by
  unfold V_is_key
  simp [v_is_key, h.1, h.2]
theorem V_check_key_eq (C : Addr) (n : Int) (h : inKey n) : V_check_key C [.val (.int n)] = .ok (.val .non) [some (.val (.int n))] := by
  unfold V_check_key
  simp [v_check_key, V_is_key_eq n h]
/-- a body of a loop that is done for each item and leaves the names as they were but some -/
theorem forI_inv {i : Nat} {b : VS} (R : List D → VF.Env → Prop) : ∀ (ds : List D) (e : VF.Env), R ds e → (∀ d ds e, R (d :: ds) e → ∃ e2, (b (e.put i (some (.val d))) = .nx e2 ∨ b (e.put i (some (.val d))) = .ct e2) ∧ R ds e2) → ∃ e', forI (tName i) b ds e = .nx e' ∧ R [] e'
  | [], e, h, hb => ⟨e, rfl, h⟩
  | d :: ds, e, h, hb => by
    obtain ⟨e2, h1, h2⟩ := hb d ds e h
    obtain ⟨e', h3, h4⟩ := forI_inv R ds e2 h2 hb
    refine ⟨e', ?_, h4⟩
    rw [forI_name]
    rcases h1 with h1 | h1 <;> rw [h1] <;> simpa using h3
theorem V_check_row_eq (C : Addr) (ns : List Int) (h : ∀ x ∈ ns, inKey x) (d : D) (hd : d = .lst (ns.map D.int) ∨ d = .tup (ns.map D.int)) : ∃ os, V_check_row C [.val d] = .ok (.val .non) os := by
  unfold V_check_row
  have key : ∃ e', forI (tName 1) (v_check_row_b1 (V_check_key C)) (ns.map D.int) ⟨[some (.val d), none], []⟩ = .nx e' := by
    obtain ⟨e', h1, _⟩ := forI_inv (i := 1) (b := v_check_row_b1 (V_check_key C)) (fun ds e => (∃ ms : List Int, ds = ms.map D.int ∧ ∀ x ∈ ms, inKey x) ∧ ∃ o, e = ⟨[some (.val d), o], []⟩) (ns.map D.int) ⟨[some (.val d), none], []⟩ ⟨⟨ns, rfl, h⟩, none, rfl⟩ (fun dd ds e he => by
      obtain ⟨⟨ms, h1, h2⟩, o, rfl⟩ := he
      cases ms with
      | nil => cases h1
      | cons m ms =>
        simp only [List.map_cons, List.cons.injEq] at h1
        obtain ⟨rfl, rfl⟩ := h1
        exact ⟨⟨[some (.val d), some (.val (.int m))], []⟩, .inl (by simp [v_check_row_b1, V_check_key_eq C m (h2 m (by simp))]), ⟨ms, rfl, fun x hx => h2 x (by simp [hx])⟩, _, rfl⟩)
    exact ⟨e', h1⟩
  obtain ⟨e', h1⟩ := key
  refine ⟨e'.o.take 1, ?_⟩
  rcases hd with rfl | rfl <;> simp [v_check_row, h1]
theorem V_check_range_eq (C : Addr) (lo hi many : Int) : V_check_range C [.val (.int lo), .val (.int hi), .val (.int many)] = if 0 ≤ lo ∧ lo ≤ hi ∧ hi ≤ many then .ok (.val .non) [some (.val (.int lo)), some (.val (.int hi)), some (.val (.int many))] else .ex C [some (.val (.int lo)), some (.val (.int hi)), some (.val (.int many))] := by
  unfold V_check_range
  by_cases h1 : 0 ≤ lo
  · by_cases h2 : lo ≤ hi
    · by_cases h3 : hi ≤ many
      · simp [v_check_range, h1, h2, h3]
      · simp [v_check_range, h1, h2, h3]
    · simp [v_check_range, h1, h2]
  · simp [v_check_range, h1]
/-- the rounds of a law: each one goes through -/
theorem rounds_all {i k : Nat} {b : VS} (hb : ∀ (o : List (Option M)) (x y z : Int), o.length = k → o[i]? = some (some (dM x y z)) → ∃ o', o'.length = k ∧ b ⟨o, []⟩ = .nx ⟨o', []⟩) (hi : i < k) : ∀ (ms : List M) (o : List (Option M)), (∀ m ∈ ms, ∃ a b c, m = dM a b c) → o.length = k → ∃ o', o'.length = k ∧ forO (tName i) b ms ⟨o, []⟩ = .nx ⟨o', []⟩
  | [], o, hm, ho => ⟨o, ho, rfl⟩
  | m :: ms, o, hm, ho => by
    obtain ⟨x, y, z, rfl⟩ := hm m (by simp)
    obtain ⟨o1, h1, h2⟩ := hb (o.set i (some (dM x y z))) x y z (by simp [ho]) (by rw [List.getElem?_set_self (by omega)])
    obtain ⟨o', h3, h4⟩ := rounds_all hb hi ms o1 (fun m hm' => hm m (by simp [hm'])) h1
    refine ⟨o', h3, ?_⟩
    rw [forO_name]
    simp [h2, h4]
end Law

namespace Law
open PySem L2 PF VF
variable [Tab]
/-! ### rounds, slot by slot -/
theorem seq_step {P : List (Option M) → Prop} {s1 s2 : VS} {o : List (Option M)} (o1 : List (Option M)) (h : s1 ⟨o, []⟩ = .nx ⟨o1, []⟩) (h2 : ∃ o', P o' ∧ s2 ⟨o1, []⟩ = .nx ⟨o', []⟩) : ∃ o', P o' ∧ vSeq s1 s2 ⟨o, []⟩ = .nx ⟨o', []⟩ := by
  obtain ⟨o', h3, h4⟩ := h2
  exact ⟨o', h3, by rw [vSeq_eq, h, seqV_nx, h4]⟩
theorem seq_stepE {P : List (Option M) → Prop} {s1 s2 : VS} {o : List (Option M)} {Q : List (Option M) → Prop} (h : ∃ o1, Q o1 ∧ s1 ⟨o, []⟩ = .nx ⟨o1, []⟩) (h2 : ∀ o1, Q o1 → ∃ o', P o' ∧ s2 ⟨o1, []⟩ = .nx ⟨o', []⟩) : ∃ o', P o' ∧ vSeq s1 s2 ⟨o, []⟩ = .nx ⟨o', []⟩ := by
  obtain ⟨o1, h1, h3⟩ := h
  exact seq_step o1 h3 (h2 o1 h1)
/-- o' is o but for the slots js, and its slot p holds dice -/
structure Sm (p : Nat) (js : List Nat) (o o' : List (Option M)) : Prop where
  len : o'.length = o.length
  eq : ∀ j, j ∉ js → o'[j]? = o[j]?
  di : ∃ a b c, o'[p]? = some (some (dM a b c))
theorem Sm.get {p : Nat} {js : List Nat} {o o' : List (Option M)} (h : Sm p js o o') {j : Nat} {x : Option (Option M)} (hx : o[j]? = x) (hj : j ∉ js) : o'[j]? = x := by rw [h.eq j hj, hx]
theorem Sm.set {p : Nat} {js : List Nat} {o o' : List (Option M)} (h : Sm p js o o') {i : Nat} {x : Option M} (hi : i ∈ js) (hp : i ≠ p) : Sm p js o (o'.set i x) :=
  ⟨by simp [h.len], fun j hj => by
    have q : i ≠ j := fun q => hj (q ▸ hi)
    rw [List.getElem?_set_ne q]; exact h.eq j hj, by rw [List.getElem?_set_ne hp]; exact h.di⟩
theorem Sm.die {p : Nat} {js : List Nat} {o o' : List (Option M)} (h : Sm p js o o') {a b c : Int} (hi : p ∈ js) : Sm p js o (o'.set p (some (dM a b c))) := by
  have hp : p < o'.length := by
    obtain ⟨_, _, _, h1⟩ := h.di
    exact (List.getElem?_eq_some_iff.mp h1).1
  exact ⟨by simp [h.len], fun j hj => by
    have q : p ≠ j := fun q => hj (q ▸ hi)
    rw [List.getElem?_set_ne q]; exact h.eq j hj, ⟨a, b, c, List.getElem?_set_self hp⟩⟩
theorem Sm.refl {p : Nat} {js : List Nat} {o : List (Option M)} (h : ∃ a b c, o[p]? = some (some (dM a b c))) : Sm p js o o := ⟨rfl, fun _ _ => rfl, h⟩
theorem Sm.trans {p : Nat} {js : List Nat} {o o1 o2 : List (Option M)} (h : Sm p js o o1) (k : Sm p js o1 o2) : Sm p js o o2 := ⟨by rw [k.len, h.len], fun j hj => by rw [k.eq j hj, h.eq j hj], k.di⟩
/-- a roll -/
theorem Sm.roll {p : Nat} {js : List Nat} {o o' : List (Option M)} (h : Sm p js o o') (hi : p ∈ js) {n : Int} {va : VE} (hv : va ⟨o', []⟩ = .ok (.val (.int n)) ⟨o', []⟩) (h0 : 0 < n) (h1 : n < 1073741824) :
    ∃ r o2, 0 ≤ r ∧ r < n ∧ Sm p js o o2 ∧ vCall V__law_roll (wPl (pVar p) (wTm va wNil)) ⟨o', []⟩ = .ok (.val (.int r)) ⟨o2, []⟩ := by
  obtain ⟨a, b, c, hd⟩ := h.di
  obtain ⟨r, a', b', c', h2, h3, h4⟩ := roll_call hd hv h0 h1
  exact ⟨r, _, h2, h3, h.die hi, h4⟩
/-- a drawn row, as a call -/
theorem Sm.row {p : Nat} {js : List Nat} {o o' : List (Option M)} (h : Sm p js o o') (hi : p ∈ js) {most wide : Nat} {va vb : VE} (hv : va ⟨o', []⟩ = .ok (.val (.int most)) ⟨o', []⟩) (hw : vb ⟨o', []⟩ = .ok (.val (.int wide)) ⟨o', []⟩) (h0 : most ≤ 1000) (h1 : wide ≤ 1000) :
    ∃ (ns : List Int) (o2 : List (Option M)), ns.length ≤ most ∧ (∀ x ∈ ns, -(wide : Int) ≤ x ∧ x ≤ wide) ∧ Sm p js o o2 ∧ vCall V__law_row (wPl (pVar p) (wTm va (wTm vb wNil))) ⟨o', []⟩ = .ok (.val (.lst (ns.map D.int))) ⟨o2, []⟩ := by
  obtain ⟨a, b, c, hd⟩ := h.di
  obtain ⟨ns, a', b', c', h2, h3, h4⟩ := V_row_eq a b c most wide h0 h1
  exact ⟨ns, _, h2, h3, h.die hi (a := a') (b := b') (c := c'), by simp [hd, hv, hw, h4]⟩
/-- turns of a comprehension that roll -/
theorem Sm.turns {p : Nat} {js : List Nat} {o : List (Option M)} {i : Nat} {f : VE} (P : M → Prop) (hi : i ∈ js) (hp : i ≠ p) (hf : ∀ d o1, Sm p js o o1 → ∃ y o2, f ⟨o1.set i (some (.val d)), []⟩ = .ok y ⟨o2, []⟩ ∧ P y ∧ Sm p js o o2) (ds : List D) (hl : ds.length < 1000000) {o' : List (Option M)} (h : Sm p js o o') :
    ∃ ys o2, ys.length = ds.length ∧ (∀ y ∈ ys, P y) ∧ Sm p js o o2 ∧ lcE (tName i) vYes f [i] ds [] ⟨o', []⟩ = .ok ys ⟨o2, []⟩ := by
  obtain ⟨ys, e', h1, h2, ⟨o2, rfl, h3⟩, h4⟩ := lcE_ex (i := i) (f := f) (fun e => ∃ o1, e = ⟨o1, []⟩ ∧ Sm p js o o1) P ds [] ⟨o', []⟩ (fun d hd e he => by
    obtain ⟨o1, rfl, he⟩ := he
    obtain ⟨y, o2, h1, h2, h3⟩ := hf d o1 he
    exact ⟨y, ⟨o2, []⟩, h1, h2, o2.set i none, rfl, h3.set hi hp⟩) ⟨o', rfl, h⟩ (by simpa using hl)
  exact ⟨ys, o2, h1, h2, h3, by simpa using h4⟩
theorem frz_ints {ys : List M} {Q : Int → Prop} (h : ∀ y ∈ ys, ∃ x : Int, y = .val (.int x) ∧ Q x) : ∃ ns : List Int, ys = iM ns ∧ ns.length = ys.length ∧ ∀ x ∈ ns, Q x := by
  induction ys with
  | nil => exact ⟨[], rfl, rfl, by simp⟩
  | cons y ys ih =>
    obtain ⟨x, rfl, hx⟩ := h y (by simp)
    obtain ⟨ns, rfl, hn, hq⟩ := ih (fun z hz => h z (by simp [hz]))
    exact ⟨x :: ns, rfl, by simp, fun z hz => by
      rcases List.mem_cons.mp hz with rfl | hz
      · exact hx
      · exact hq z hz⟩
/-- [f for i in range(n)], f a number -/
theorem Sm.draw {p : Nat} {js : List Nat} {o o' : List (Option M)} {i : Nat} {f va : VE} {n : Nat} (Q : Int → Prop) (h : Sm p js o o') (hi : i ∈ js) (hp : i ≠ p) (hv : va ⟨o', []⟩ = .ok (.val (.int n)) ⟨o', []⟩) (hn : n ≤ 1000)
    (hf : ∀ d o1, Sm p js o o1 → ∃ x o2, f ⟨o1.set i (some (.val d)), []⟩ = .ok (.val (.int x)) ⟨o2, []⟩ ∧ Q x ∧ Sm p js o o2) :
    ∃ (ns : List Int) (o2 : List (Option M)), ns.length = n ∧ (∀ x ∈ ns, Q x) ∧ Sm p js o o2 ∧ vLcE [i] (viRng (vCons va vNil)) (tName i) vYes f frzM ⟨o', []⟩ = .ok (.val (.lst (ns.map D.int))) ⟨o2, []⟩ := by
  obtain ⟨ys, o2, h1, h2, h3, h4⟩ := Sm.turns (f := f) (fun y => ∃ x : Int, y = .val (.int x) ∧ Q x) hi hp (fun d o1 h1 => by
    obtain ⟨x, o2, h2, h3, h4⟩ := hf d o1 h1
    exact ⟨_, o2, h2, ⟨x, rfl, h3⟩, h4⟩) (rgD 0 n) (by simp [rgD]; omega) (h.set (x := none) hi hp)
  obtain ⟨ns, rfl, h5, h6⟩ := frz_ints h2
  have hr : rngOk (n : Int) = true := rngOk_of (by omega) (by omega)
  exact ⟨ns, o2.set i none, by simpa [rgD] using h1, h6, h3.set hi hp, by simp [vLcE, hv, hr, h4]⟩
theorem frz_rows {ys : List M} {Q : List Int → Prop} (h : ∀ y ∈ ys, ∃ x : List Int, y = .val (.lst (x.map D.int)) ∧ Q x) : ∃ ns : List (List Int), ys = (lstD ns).map M.val ∧ ns.length = ys.length ∧ ∀ x ∈ ns, Q x := by
  induction ys with
  | nil => exact ⟨[], rfl, rfl, by simp⟩
  | cons y ys ih =>
    obtain ⟨x, rfl, hx⟩ := h y (by simp)
    obtain ⟨ns, rfl, hn, hq⟩ := ih (fun z hz => h z (by simp [hz]))
    exact ⟨x :: ns, rfl, by simp, fun z hz => by
      rcases List.mem_cons.mp hz with rfl | hz
      · exact hx
      · exact hq z hz⟩
/-- [f for i in range(n)], f a row of numbers -/
theorem Sm.drawR {p : Nat} {js : List Nat} {o o' : List (Option M)} {i : Nat} {f va : VE} {n : Nat} (Q : List Int → Prop) (h : Sm p js o o') (hi : i ∈ js) (hp : i ≠ p) (hv : va ⟨o', []⟩ = .ok (.val (.int n)) ⟨o', []⟩) (hn : n ≤ 1000)
    (hf : ∀ d o1, Sm p js o o1 → ∃ x o2, f ⟨o1.set i (some (.val d)), []⟩ = .ok (.val (.lst (x.map D.int))) ⟨o2, []⟩ ∧ Q x ∧ Sm p js o o2) :
    ∃ (ns : List (List Int)) (o2 : List (Option M)), ns.length = n ∧ (∀ x ∈ ns, Q x) ∧ Sm p js o o2 ∧ vLcE [i] (viRng (vCons va vNil)) (tName i) vYes f frzM ⟨o', []⟩ = .ok (.val (.lst (lstD ns))) ⟨o2, []⟩ := by
  obtain ⟨ys, o2, h1, h2, h3, h4⟩ := Sm.turns (f := f) (fun y => ∃ x : List Int, y = .val (.lst (x.map D.int)) ∧ Q x) hi hp (fun d o1 h1 => by
    obtain ⟨x, o2, h2, h3, h4⟩ := hf d o1 h1
    exact ⟨_, o2, h2, ⟨x, rfl, h3⟩, h4⟩) (rgD 0 n) (by simp [rgD]; omega) (h.set (x := none) hi hp)
  obtain ⟨ns, rfl, h5, h6⟩ := frz_rows h2
  have hr : rngOk (n : Int) = true := rngOk_of (by omega) (by omega)
  exact ⟨ns, o2.set i none, by simpa [rgD] using h1, h6, h3.set hi hp, by simp [vLcE, hv, hr, h4]⟩
end Law
namespace Law
open PySem L2 PF VF
variable [Tab]
theorem kset {o : List (Option M)} {i j : Nat} {x : Option (Option M)} {y : Option M} (h : o[j]? = x) (hij : i ≠ j) : (o.set i y)[j]? = x := by rw [List.getElem?_set_ne hij]; exact h
theorem kself {o : List (Option M)} {i n : Nat} {y : Option M} (h : o.length = n) (hi : i < n) : (o.set i y)[i]? = some y := List.getElem?_set_self (by omega)
theorem klen {o : List (Option M)} {i n : Nat} {y : Option M} (h : o.length = n) : (o.set i y).length = n := by simp [h]
theorem dset {o : List (Option M)} {i p : Nat} {y : Option M} (h : ∃ a b c, o[p]? = some (some (dM a b c))) (hij : i ≠ p) : ∃ a b c, (o.set i y)[p]? = some (some (dM a b c)) := by rw [List.getElem?_set_ne hij]; exact h
end Law
namespace Law
open PySem L2 PF VF
variable [Tab]
theorem ite_t {P : List (Option M) → Prop} {c : VT} {s1 s2 : VS} {o : List (Option M)} (h : c ⟨o, []⟩ = .ok true ⟨o, []⟩) (h2 : ∃ o', P o' ∧ s1 ⟨o, []⟩ = .nx ⟨o', []⟩) : ∃ o', P o' ∧ vIte c s1 s2 ⟨o, []⟩ = .nx ⟨o', []⟩ := by
  obtain ⟨o', h3, h4⟩ := h2
  exact ⟨o', h3, by rw [vIte_eq, h, tv_ok, if_pos rfl, h4]⟩
theorem ite_f {P : List (Option M) → Prop} {c : VT} {s1 s2 : VS} {o : List (Option M)} (h : c ⟨o, []⟩ = .ok false ⟨o, []⟩) (h2 : ∃ o', P o' ∧ s2 ⟨o, []⟩ = .nx ⟨o', []⟩) : ∃ o', P o' ∧ vIte c s1 s2 ⟨o, []⟩ = .nx ⟨o', []⟩ := by
  obtain ⟨o', h3, h4⟩ := h2
  exact ⟨o', h3, by rw [vIte_eq, h, tv_ok, if_neg (by decide), h4]⟩
end Law

namespace Law
open PySem L2 PF VF
variable [Tab]
def f_height : FS :=
  fRet (fIf (fTst (fOp gIs (fVar 0) (fC .non))) (fC (.int 0)) (fOp gIx (fVar 0) (fC (.int 4))))
def v_height : VS :=
  vRet (vIf (vTst (vOp gIs (vVar 0) (vC .non))) (vC (.int 0)) (vOp gIx (vVar 0) (vC (.int 4))))
set_option maxHeartbeats 4000000 in
theorem s_height : SimS true [] (f_height) (v_height) :=
  ss_ret (se_if (st_tst (se_op opv_is (se_var 0) (se_c))) (se_c) (se_op opv_ix (se_var 0) (se_c)))
def F_height : FN := runF ["tree"] (f_height)
def V_height : VN := runV 1 1 (v_height)
theorem n_height : NSim true [] (F_height) (V_height) := nsim_fn (s_height)
theorem e_height : ∀ ms, ms.length ≠ 1 → V_height ms = .no := run_len
def f_how_many : FS :=
  fRet (fIf (fTst (fOp gIs (fVar 0) (fC .non))) (fC (.int 0)) (fOp gIx (fVar 0) (fC (.int 5))))
def v_how_many : VS :=
  vRet (vIf (vTst (vOp gIs (vVar 0) (vC .non))) (vC (.int 0)) (vOp gIx (vVar 0) (vC (.int 5))))
set_option maxHeartbeats 4000000 in
theorem s_how_many : SimS true [] (f_how_many) (v_how_many) :=
  ss_ret (se_if (st_tst (se_op opv_is (se_var 0) (se_c))) (se_c) (se_op opv_ix (se_var 0) (se_c)))
def F_how_many : FN := runF ["tree"] (f_how_many)
def V_how_many : VN := runV 1 1 (v_how_many)
theorem n_how_many : NSim true [] (F_how_many) (V_how_many) := nsim_fn (s_how_many)
theorem e_how_many : ∀ ms, ms.length ≠ 1 → V_how_many ms = .no := run_len
def f_node (F_how_many F_height : FN) : FS :=
  fRet (fTup (fCons (fVar 0) (fCons (fVar 1) (fCons (fVar 2) (fCons (fVar 3) (fCons (fOp (gAdd false) (fC (.int 1)) (fCB gMax (fCons (fCall (FN.len F_height 1) (fCons (fVar 0) (fNil))) (fCons (fCall (FN.len F_height 1) (fCons (fVar 3) (fNil))) (fNil))))) (fCons (fOp (gAdd false) (fOp (gAdd false) (fC (.int 1)) (fCall (FN.len F_how_many 1) (fCons (fVar 0) (fNil)))) (fCall (FN.len F_how_many 1) (fCons (fVar 3) (fNil)))) (fNil))))))))
def v_node (V_how_many V_height : VN) : VS :=
  vRet (vTup (vCons (vVar 0) (vCons (vVar 1) (vCons (vVar 2) (vCons (vVar 3) (vCons (vOp (gAdd false) (vC (.int 1)) (vCB gMax (vCons (vCallV V_height (vCons (vVar 0) (vNil))) (vCons (vCallV V_height (vCons (vVar 3) (vNil))) (vNil))))) (vCons (vOp (gAdd false) (vOp (gAdd false) (vC (.int 1)) (vCallV V_how_many (vCons (vVar 0) (vNil)))) (vCallV V_how_many (vCons (vVar 3) (vNil)))) (vNil))))))))
set_option maxHeartbeats 4000000 in
theorem s_node {F_how_many F_height : FN} {V_how_many V_height : VN}
    (n_how_many : NSim true [] F_how_many V_how_many) (e_how_many : ∀ ms, ms.length ≠ 1 → V_how_many ms = .no)
    (n_height : NSim true [] F_height V_height) (e_height : ∀ ms, ms.length ≠ 1 → V_height ms = .no) : SimS true [] (f_node F_how_many F_height) (v_node V_how_many V_height) :=
  ss_ret (se_tup (sa_cons (se_var 0) (sa_cons (se_var 1) (sa_cons (se_var 2) (sa_cons (se_var 3) (sa_cons (se_op opv_add (se_c) (se_cb cv_max (sav_cons (se_callV n_height e_height (sa_cons (se_var 0) (sa_nil))) (sav_cons (se_callV n_height e_height (sa_cons (se_var 3) (sa_nil))) (sav_nil))))) (sa_cons (se_op opv_add (se_op opv_add (se_c) (se_callV n_how_many e_how_many (sa_cons (se_var 0) (sa_nil)))) (se_callV n_how_many e_how_many (sa_cons (se_var 3) (sa_nil)))) (sa_nil))))))))
def F_node : FN := runF ["left", "key", "what", "right"] (f_node F_how_many F_height)
def V_node : VN := runV 4 4 (v_node V_how_many V_height)
theorem n_node : NSim true [] (F_node) (V_node) := nsim_fn (s_node n_how_many e_how_many n_height e_height)
theorem e_node : ∀ ms, ms.length ≠ 4 → V_node ms = .no := run_len
def f_leaned (F_height F_node : FN) : FS :=
  fSeq (fIte (fTst (fOp gGtA (fCall (FN.len F_height 1) (fCons (fVar 0) (fNil))) (fOp (gAdd false) (fCall (FN.len F_height 1) (fCons (fVar 3) (fNil))) (fC (.int 1))))) (fSeq (fAsg (fSl false (fVar 0) (fNoPart) (fPart (fC (.int 4)))) (gtTup 4 (gtCons (gtName 4) (gtCons (gtName 5) (gtCons (gtName 6) (gtCons (gtName 7) (gtNil)))))))
    (fSeq (fIte (fTst (fOp gGe (fCall (FN.len F_height 1) (fCons (fVar 4) (fNil))) (fCall (FN.len F_height 1) (fCons (fVar 7) (fNil))))) (fRet (fCall (FN.len F_node 4) (fCons (fVar 4) (fCons (fVar 5) (fCons (fVar 6) (fCons (fCall (FN.len F_node 4) (fCons (fVar 7) (fCons (fVar 1) (fCons (fVar 2) (fCons (fVar 3) (fNil)))))) (fNil))))))) (fNext))
    (fRet (fCall (FN.len F_node 4) (fCons (fCall (FN.len F_node 4) (fCons (fVar 4) (fCons (fVar 5) (fCons (fVar 6) (fCons (fOp gIx (fVar 7) (fC (.int 0))) (fNil)))))) (fCons (fOp gIx (fVar 7) (fC (.int 1))) (fCons (fOp gIx (fVar 7) (fC (.int 2))) (fCons (fCall (FN.len F_node 4) (fCons (fOp gIx (fVar 7) (fC (.int 3))) (fCons (fVar 1) (fCons (fVar 2) (fCons (fVar 3) (fNil)))))) (fNil))))))))) (fNext))
    (fSeq (fIte (fTst (fOp gGtA (fCall (FN.len F_height 1) (fCons (fVar 3) (fNil))) (fOp (gAdd false) (fCall (FN.len F_height 1) (fCons (fVar 0) (fNil))) (fC (.int 1))))) (fSeq (fAsg (fSl false (fVar 3) (fNoPart) (fPart (fC (.int 4)))) (gtTup 4 (gtCons (gtName 4) (gtCons (gtName 5) (gtCons (gtName 6) (gtCons (gtName 7) (gtNil)))))))
    (fSeq (fIte (fTst (fOp gGe (fCall (FN.len F_height 1) (fCons (fVar 7) (fNil))) (fCall (FN.len F_height 1) (fCons (fVar 4) (fNil))))) (fRet (fCall (FN.len F_node 4) (fCons (fCall (FN.len F_node 4) (fCons (fVar 0) (fCons (fVar 1) (fCons (fVar 2) (fCons (fVar 4) (fNil)))))) (fCons (fVar 5) (fCons (fVar 6) (fCons (fVar 7) (fNil))))))) (fNext))
    (fRet (fCall (FN.len F_node 4) (fCons (fCall (FN.len F_node 4) (fCons (fVar 0) (fCons (fVar 1) (fCons (fVar 2) (fCons (fOp gIx (fVar 4) (fC (.int 0))) (fNil)))))) (fCons (fOp gIx (fVar 4) (fC (.int 1))) (fCons (fOp gIx (fVar 4) (fC (.int 2))) (fCons (fCall (FN.len F_node 4) (fCons (fOp gIx (fVar 4) (fC (.int 3))) (fCons (fVar 5) (fCons (fVar 6) (fCons (fVar 7) (fNil)))))) (fNil))))))))) (fNext))
    (fRet (fCall (FN.len F_node 4) (fCons (fVar 0) (fCons (fVar 1) (fCons (fVar 2) (fCons (fVar 3) (fNil))))))))
def v_leaned (V_height V_node : VN) : VS :=
  vSeq (vIte (vTst (vOp gGtA (vCallV V_height (vCons (vVar 0) (vNil))) (vOp (gAdd false) (vCallV V_height (vCons (vVar 3) (vNil))) (vC (.int 1))))) (vSeq (vAsg (vSl (vVar 0) (vNoPart) (vPart (vC (.int 4)))) (tTup 4 (tCons (tName 4) (tCons (tName 5) (tCons (tName 6) (tCons (tName 7) (tNil)))))))
    (vSeq (vIte (vTst (vOp gGe (vCallV V_height (vCons (vVar 4) (vNil))) (vCallV V_height (vCons (vVar 7) (vNil))))) (vRet (vCallV V_node (vCons (vVar 4) (vCons (vVar 5) (vCons (vVar 6) (vCons (vCallV V_node (vCons (vVar 7) (vCons (vVar 1) (vCons (vVar 2) (vCons (vVar 3) (vNil)))))) (vNil))))))) (vNext))
    (vRet (vCallV V_node (vCons (vCallV V_node (vCons (vVar 4) (vCons (vVar 5) (vCons (vVar 6) (vCons (vOp gIx (vVar 7) (vC (.int 0))) (vNil)))))) (vCons (vOp gIx (vVar 7) (vC (.int 1))) (vCons (vOp gIx (vVar 7) (vC (.int 2))) (vCons (vCallV V_node (vCons (vOp gIx (vVar 7) (vC (.int 3))) (vCons (vVar 1) (vCons (vVar 2) (vCons (vVar 3) (vNil)))))) (vNil))))))))) (vNext))
    (vSeq (vIte (vTst (vOp gGtA (vCallV V_height (vCons (vVar 3) (vNil))) (vOp (gAdd false) (vCallV V_height (vCons (vVar 0) (vNil))) (vC (.int 1))))) (vSeq (vAsg (vSl (vVar 3) (vNoPart) (vPart (vC (.int 4)))) (tTup 4 (tCons (tName 4) (tCons (tName 5) (tCons (tName 6) (tCons (tName 7) (tNil)))))))
    (vSeq (vIte (vTst (vOp gGe (vCallV V_height (vCons (vVar 7) (vNil))) (vCallV V_height (vCons (vVar 4) (vNil))))) (vRet (vCallV V_node (vCons (vCallV V_node (vCons (vVar 0) (vCons (vVar 1) (vCons (vVar 2) (vCons (vVar 4) (vNil)))))) (vCons (vVar 5) (vCons (vVar 6) (vCons (vVar 7) (vNil))))))) (vNext))
    (vRet (vCallV V_node (vCons (vCallV V_node (vCons (vVar 0) (vCons (vVar 1) (vCons (vVar 2) (vCons (vOp gIx (vVar 4) (vC (.int 0))) (vNil)))))) (vCons (vOp gIx (vVar 4) (vC (.int 1))) (vCons (vOp gIx (vVar 4) (vC (.int 2))) (vCons (vCallV V_node (vCons (vOp gIx (vVar 4) (vC (.int 3))) (vCons (vVar 5) (vCons (vVar 6) (vCons (vVar 7) (vNil)))))) (vNil))))))))) (vNext))
    (vRet (vCallV V_node (vCons (vVar 0) (vCons (vVar 1) (vCons (vVar 2) (vCons (vVar 3) (vNil))))))))
set_option maxHeartbeats 4000000 in
theorem s_leaned {F_height F_node : FN} {V_height V_node : VN}
    (n_height : NSim true [] F_height V_height) (e_height : ∀ ms, ms.length ≠ 1 → V_height ms = .no)
    (n_node : NSim true [] F_node V_node) (e_node : ∀ ms, ms.length ≠ 4 → V_node ms = .no) : SimS true [] (f_leaned F_height F_node) (v_leaned V_height V_node) :=
  ss_seq (ss_ite (st_tst (se_op opv_gtA (se_callV n_height e_height (sa_cons (se_var 0) (sa_nil))) (se_op opv_add (se_callV n_height e_height (sa_cons (se_var 3) (sa_nil))) (se_c)))) (ss_seq (ss_asg (se_sl (se_var 0) (sq_none) (sq_some (se_c))) (sg_tup (sgs_cons (sg_name (by decide)) (sgs_cons (sg_name (by decide)) (sgs_cons (sg_name (by decide)) (sgs_cons (sg_name (by decide)) (sgs_nil)))))))
    (ss_seq (ss_ite (st_tst (se_op opv_ge (se_callV n_height e_height (sa_cons (se_var 4) (sa_nil))) (se_callV n_height e_height (sa_cons (se_var 7) (sa_nil))))) (ss_ret (se_callV n_node e_node (sa_cons (se_var 4) (sa_cons (se_var 5) (sa_cons (se_var 6) (sa_cons (se_callV n_node e_node (sa_cons (se_var 7) (sa_cons (se_var 1) (sa_cons (se_var 2) (sa_cons (se_var 3) (sa_nil)))))) (sa_nil))))))) (ss_next))
    (ss_ret (se_callV n_node e_node (sa_cons (se_callV n_node e_node (sa_cons (se_var 4) (sa_cons (se_var 5) (sa_cons (se_var 6) (sa_cons (se_op opv_ix (se_var 7) (se_c)) (sa_nil)))))) (sa_cons (se_op opv_ix (se_var 7) (se_c)) (sa_cons (se_op opv_ix (se_var 7) (se_c)) (sa_cons (se_callV n_node e_node (sa_cons (se_op opv_ix (se_var 7) (se_c)) (sa_cons (se_var 1) (sa_cons (se_var 2) (sa_cons (se_var 3) (sa_nil)))))) (sa_nil))))))))) (ss_next))
    (ss_seq (ss_ite (st_tst (se_op opv_gtA (se_callV n_height e_height (sa_cons (se_var 3) (sa_nil))) (se_op opv_add (se_callV n_height e_height (sa_cons (se_var 0) (sa_nil))) (se_c)))) (ss_seq (ss_asg (se_sl (se_var 3) (sq_none) (sq_some (se_c))) (sg_tup (sgs_cons (sg_name (by decide)) (sgs_cons (sg_name (by decide)) (sgs_cons (sg_name (by decide)) (sgs_cons (sg_name (by decide)) (sgs_nil)))))))
    (ss_seq (ss_ite (st_tst (se_op opv_ge (se_callV n_height e_height (sa_cons (se_var 7) (sa_nil))) (se_callV n_height e_height (sa_cons (se_var 4) (sa_nil))))) (ss_ret (se_callV n_node e_node (sa_cons (se_callV n_node e_node (sa_cons (se_var 0) (sa_cons (se_var 1) (sa_cons (se_var 2) (sa_cons (se_var 4) (sa_nil)))))) (sa_cons (se_var 5) (sa_cons (se_var 6) (sa_cons (se_var 7) (sa_nil))))))) (ss_next))
    (ss_ret (se_callV n_node e_node (sa_cons (se_callV n_node e_node (sa_cons (se_var 0) (sa_cons (se_var 1) (sa_cons (se_var 2) (sa_cons (se_op opv_ix (se_var 4) (se_c)) (sa_nil)))))) (sa_cons (se_op opv_ix (se_var 4) (se_c)) (sa_cons (se_op opv_ix (se_var 4) (se_c)) (sa_cons (se_callV n_node e_node (sa_cons (se_op opv_ix (se_var 4) (se_c)) (sa_cons (se_var 5) (sa_cons (se_var 6) (sa_cons (se_var 7) (sa_nil)))))) (sa_nil))))))))) (ss_next))
    (ss_ret (se_callV n_node e_node (sa_cons (se_var 0) (sa_cons (se_var 1) (sa_cons (se_var 2) (sa_cons (se_var 3) (sa_nil))))))))
def F_leaned : FN := runF ["left", "key", "what", "right", "a", "k", "w", "b"] (f_leaned F_height F_node)
def V_leaned : VN := runV 4 8 (v_leaned V_height V_node)
theorem n_leaned : NSim true [] (F_leaned) (V_leaned) := nsim_fn (s_leaned n_height e_height n_node e_node)
theorem e_leaned : ∀ ms, ms.length ≠ 4 → V_leaned ms = .no := run_len
def f_put (F_check_key F_node F_leaned F_put : FN) : FS :=
  fSeq (fExpr (fCall (FN.len F_check_key 1) (fCons (fVar 1) (fNil))))
    (fSeq (fIte (fTst (fOp gIs (fVar 0) (fC .non))) (fRet (fCall (FN.len F_node 4) (fCons (fC .non) (fCons (fVar 1) (fCons (fVar 2) (fCons (fC .non) (fNil))))))) (fNext))
    (fSeq (fAsg (fSl false (fVar 0) (fNoPart) (fPart (fC (.int 4)))) (gtTup 4 (gtCons (gtName 3) (gtCons (gtName 4) (gtCons (gtName 5) (gtCons (gtName 6) (gtNil)))))))
    (fSeq (fIte (fTst (fOp gEq (fVar 1) (fVar 4))) (fRet (fCall (FN.len F_node 4) (fCons (fVar 3) (fCons (fVar 1) (fCons (fVar 2) (fCons (fVar 6) (fNil))))))) (fNext))
    (fSeq (fIte (fTst (fOp gLt (fVar 1) (fVar 4))) (fRet (fCall (FN.len F_leaned 4) (fCons (fCall (FN.len F_put 3) (fCons (fVar 3) (fCons (fVar 1) (fCons (fVar 2) (fNil))))) (fCons (fVar 4) (fCons (fVar 5) (fCons (fVar 6) (fNil))))))) (fNext))
    (fRet (fCall (FN.len F_leaned 4) (fCons (fVar 3) (fCons (fVar 4) (fCons (fVar 5) (fCons (fCall (FN.len F_put 3) (fCons (fVar 6) (fCons (fVar 1) (fCons (fVar 2) (fNil))))) (fNil)))))))))))
def v_put (V_check_key V_node V_leaned V_put : VN) : VS :=
  vSeq (vExpr (vCallV V_check_key (vCons (vVar 1) (vNil))))
    (vSeq (vIte (vTst (vOp gIs (vVar 0) (vC .non))) (vRet (vCallV V_node (vCons (vC .non) (vCons (vVar 1) (vCons (vVar 2) (vCons (vC .non) (vNil))))))) (vNext))
    (vSeq (vAsg (vSl (vVar 0) (vNoPart) (vPart (vC (.int 4)))) (tTup 4 (tCons (tName 3) (tCons (tName 4) (tCons (tName 5) (tCons (tName 6) (tNil)))))))
    (vSeq (vIte (vTst (vOp gEq (vVar 1) (vVar 4))) (vRet (vCallV V_node (vCons (vVar 3) (vCons (vVar 1) (vCons (vVar 2) (vCons (vVar 6) (vNil))))))) (vNext))
    (vSeq (vIte (vTst (vOp gLt (vVar 1) (vVar 4))) (vRet (vCallV V_leaned (vCons (vCallV V_put (vCons (vVar 3) (vCons (vVar 1) (vCons (vVar 2) (vNil))))) (vCons (vVar 4) (vCons (vVar 5) (vCons (vVar 6) (vNil))))))) (vNext))
    (vRet (vCallV V_leaned (vCons (vVar 3) (vCons (vVar 4) (vCons (vVar 5) (vCons (vCallV V_put (vCons (vVar 6) (vCons (vVar 1) (vCons (vVar 2) (vNil))))) (vNil)))))))))))
set_option maxHeartbeats 4000000 in
theorem s_put {F_check_key F_node F_leaned F_put : FN} {V_check_key V_node V_leaned V_put : VN}
    (n_check_key : NSim true [] F_check_key V_check_key) (e_check_key : ∀ ms, ms.length ≠ 1 → V_check_key ms = .no)
    (n_node : NSim true [] F_node V_node) (e_node : ∀ ms, ms.length ≠ 4 → V_node ms = .no)
    (n_leaned : NSim true [] F_leaned V_leaned) (e_leaned : ∀ ms, ms.length ≠ 4 → V_leaned ms = .no)
    (n_put : NSim true [] F_put V_put) (e_put : ∀ ms, ms.length ≠ 3 → V_put ms = .no) : SimS true [] (f_put F_check_key F_node F_leaned F_put) (v_put V_check_key V_node V_leaned V_put) :=
  ss_seq (ss_expr (se_callV n_check_key e_check_key (sa_cons (se_var 1) (sa_nil))))
    (ss_seq (ss_ite (st_tst (se_op opv_is (se_var 0) (se_c))) (ss_ret (se_callV n_node e_node (sa_cons (se_c) (sa_cons (se_var 1) (sa_cons (se_var 2) (sa_cons (se_c) (sa_nil))))))) (ss_next))
    (ss_seq (ss_asg (se_sl (se_var 0) (sq_none) (sq_some (se_c))) (sg_tup (sgs_cons (sg_name (by decide)) (sgs_cons (sg_name (by decide)) (sgs_cons (sg_name (by decide)) (sgs_cons (sg_name (by decide)) (sgs_nil)))))))
    (ss_seq (ss_ite (st_tst (se_op opv_eq (se_var 1) (se_var 4))) (ss_ret (se_callV n_node e_node (sa_cons (se_var 3) (sa_cons (se_var 1) (sa_cons (se_var 2) (sa_cons (se_var 6) (sa_nil))))))) (ss_next))
    (ss_seq (ss_ite (st_tst (se_op opv_lt (se_var 1) (se_var 4))) (ss_ret (se_callV n_leaned e_leaned (sa_cons (se_callV n_put e_put (sa_cons (se_var 3) (sa_cons (se_var 1) (sa_cons (se_var 2) (sa_nil))))) (sa_cons (se_var 4) (sa_cons (se_var 5) (sa_cons (se_var 6) (sa_nil))))))) (ss_next))
    (ss_ret (se_callV n_leaned e_leaned (sa_cons (se_var 3) (sa_cons (se_var 4) (sa_cons (se_var 5) (sa_cons (se_callV n_put e_put (sa_cons (se_var 6) (sa_cons (se_var 1) (sa_cons (se_var 2) (sa_nil))))) (sa_nil)))))))))))
def F_put (C_BadKey : Addr) : Nat → FN
  | 0 => fun _ _ => .no
  | n + 1 => runF ["tree", "key", "what", "left", "here", "told", "right"] (f_put (F_check_key C_BadKey) F_node F_leaned (F_put C_BadKey n))
def V_put (C_BadKey : Addr) : Nat → VN
  | 0 => fun _ => .no
  | n + 1 => runV 3 7 (v_put (V_check_key C_BadKey) V_node V_leaned (V_put C_BadKey n))
theorem e_put (C_BadKey : Addr) : ∀ n ms, ms.length ≠ 3 → V_put C_BadKey n ms = .no
  | 0 => fun _ _ => rfl
  | n + 1 => run_len
theorem n_put (C_BadKey : Addr) : ∀ n, NSim true [] (F_put C_BadKey n) (V_put C_BadKey n)
  | 0 => ⟨fun _ _ _ _ _ _ => trivial⟩
  | n + 1 => nsim_fn (s_put (n_check_key C_BadKey) (e_check_key C_BadKey) n_node e_node n_leaned e_leaned (n_put C_BadKey n) (e_put C_BadKey n))
def f_least_c1 : FT :=
  fTst (fOp gIsNot (fOp gIx (fVar 0) (fC (.int 0))) (fC .non))
def f_least_b1 : FS :=
  fAsg (fOp gIx (fVar 0) (fC (.int 0))) (gtName 0)
def f_least : FS :=
  fSeq (fIte (fTst (fOp gIs (fVar 0) (fC .non))) (fDead) (fNext))
    (fSeq (fWhile (f_least_c1) (f_least_b1) 100000)
    (fRet (fTup (fCons (fOp gIx (fVar 0) (fC (.int 1))) (fCons (fOp gIx (fVar 0) (fC (.int 2))) (fNil))))))
def v_least_c1 : VT :=
  vTst (vOp gIsNot (vOp gIx (vVar 0) (vC (.int 0))) (vC .non))
def v_least_b1 : VS :=
  vAsg (vOp gIx (vVar 0) (vC (.int 0))) (tName 0)
def v_least : VS :=
  vSeq (vIte (vTst (vOp gIs (vVar 0) (vC .non))) (vDead) (vNext))
    (vSeq (vWhile (v_least_c1) (v_least_b1) 100000)
    (vRet (vTup (vCons (vOp gIx (vVar 0) (vC (.int 1))) (vCons (vOp gIx (vVar 0) (vC (.int 2))) (vNil))))))
set_option maxHeartbeats 4000000 in
theorem s_least : SimS true [] (f_least) (v_least) :=
  ss_seq (ss_ite (st_tst (se_op opv_is (se_var 0) (se_c))) (ss_dead) (ss_next))
    (ss_seq (ss_while 100000 (st_tst (se_op opv_isnot (se_op opv_ix (se_var 0) (se_c)) (se_c))) (ss_asg (se_op opv_ix (se_var 0) (se_c)) (sg_name (by decide))))
    (ss_ret (se_tup (sa_cons (se_op opv_ix (se_var 0) (se_c)) (sa_cons (se_op opv_ix (se_var 0) (se_c)) (sa_nil))))))
def F_least : FN := runF ["tree"] (f_least)
def V_least : VN := runV 1 1 (v_least)
theorem n_least : NSim true [] (F_least) (V_least) := nsim_fn (s_least)
theorem e_least : ∀ ms, ms.length ≠ 1 → V_least ms = .no := run_len
def f_without_least (F_leaned F_without_least : FN) : FS :=
  fSeq (fIte (fTst (fOp gIs (fOp gIx (fVar 0) (fC (.int 0))) (fC .non))) (fRet (fOp gIx (fVar 0) (fC (.int 3)))) (fNext))
    (fRet (fCall (FN.len F_leaned 4) (fCons (fCall (FN.len F_without_least 1) (fCons (fOp gIx (fVar 0) (fC (.int 0))) (fNil))) (fCons (fOp gIx (fVar 0) (fC (.int 1))) (fCons (fOp gIx (fVar 0) (fC (.int 2))) (fCons (fOp gIx (fVar 0) (fC (.int 3))) (fNil)))))))
def v_without_least (V_leaned V_without_least : VN) : VS :=
  vSeq (vIte (vTst (vOp gIs (vOp gIx (vVar 0) (vC (.int 0))) (vC .non))) (vRet (vOp gIx (vVar 0) (vC (.int 3)))) (vNext))
    (vRet (vCallV V_leaned (vCons (vCallV V_without_least (vCons (vOp gIx (vVar 0) (vC (.int 0))) (vNil))) (vCons (vOp gIx (vVar 0) (vC (.int 1))) (vCons (vOp gIx (vVar 0) (vC (.int 2))) (vCons (vOp gIx (vVar 0) (vC (.int 3))) (vNil)))))))
set_option maxHeartbeats 4000000 in
theorem s_without_least {F_leaned F_without_least : FN} {V_leaned V_without_least : VN}
    (n_leaned : NSim true [] F_leaned V_leaned) (e_leaned : ∀ ms, ms.length ≠ 4 → V_leaned ms = .no)
    (n_without_least : NSim true [] F_without_least V_without_least) (e_without_least : ∀ ms, ms.length ≠ 1 → V_without_least ms = .no) : SimS true [] (f_without_least F_leaned F_without_least) (v_without_least V_leaned V_without_least) :=
  ss_seq (ss_ite (st_tst (se_op opv_is (se_op opv_ix (se_var 0) (se_c)) (se_c))) (ss_ret (se_op opv_ix (se_var 0) (se_c))) (ss_next))
    (ss_ret (se_callV n_leaned e_leaned (sa_cons (se_callV n_without_least e_without_least (sa_cons (se_op opv_ix (se_var 0) (se_c)) (sa_nil))) (sa_cons (se_op opv_ix (se_var 0) (se_c)) (sa_cons (se_op opv_ix (se_var 0) (se_c)) (sa_cons (se_op opv_ix (se_var 0) (se_c)) (sa_nil)))))))
def F_without_least : Nat → FN
  | 0 => fun _ _ => .no
  | n + 1 => runF ["tree"] (f_without_least F_leaned (F_without_least n))
def V_without_least : Nat → VN
  | 0 => fun _ => .no
  | n + 1 => runV 1 1 (v_without_least V_leaned (V_without_least n))
theorem e_without_least : ∀ n ms, ms.length ≠ 1 → V_without_least n ms = .no
  | 0 => fun _ _ => rfl
  | n + 1 => run_len
theorem n_without_least : ∀ n, NSim true [] (F_without_least n) (V_without_least n)
  | 0 => ⟨fun _ _ _ _ _ _ => trivial⟩
  | n + 1 => nsim_fn (s_without_least n_leaned e_leaned (n_without_least n) (e_without_least n))
def f_joined (F_height F_leaned F_joined F_node : FN) : FS :=
  fSeq (fIte (fTst (fOp gGtA (fCall (FN.len F_height 1) (fCons (fVar 0) (fNil))) (fOp (gAdd false) (fCall (FN.len F_height 1) (fCons (fVar 3) (fNil))) (fC (.int 1))))) (fRet (fCall (FN.len F_leaned 4) (fCons (fOp gIx (fVar 0) (fC (.int 0))) (fCons (fOp gIx (fVar 0) (fC (.int 1))) (fCons (fOp gIx (fVar 0) (fC (.int 2))) (fCons (fCall (FN.len F_joined 4) (fCons (fOp gIx (fVar 0) (fC (.int 3))) (fCons (fVar 1) (fCons (fVar 2) (fCons (fVar 3) (fNil)))))) (fNil))))))) (fNext))
    (fSeq (fIte (fTst (fOp gGtA (fCall (FN.len F_height 1) (fCons (fVar 3) (fNil))) (fOp (gAdd false) (fCall (FN.len F_height 1) (fCons (fVar 0) (fNil))) (fC (.int 1))))) (fRet (fCall (FN.len F_leaned 4) (fCons (fCall (FN.len F_joined 4) (fCons (fVar 0) (fCons (fVar 1) (fCons (fVar 2) (fCons (fOp gIx (fVar 3) (fC (.int 0))) (fNil)))))) (fCons (fOp gIx (fVar 3) (fC (.int 1))) (fCons (fOp gIx (fVar 3) (fC (.int 2))) (fCons (fOp gIx (fVar 3) (fC (.int 3))) (fNil))))))) (fNext))
    (fRet (fCall (FN.len F_node 4) (fCons (fVar 0) (fCons (fVar 1) (fCons (fVar 2) (fCons (fVar 3) (fNil))))))))
def v_joined (V_height V_leaned V_joined V_node : VN) : VS :=
  vSeq (vIte (vTst (vOp gGtA (vCallV V_height (vCons (vVar 0) (vNil))) (vOp (gAdd false) (vCallV V_height (vCons (vVar 3) (vNil))) (vC (.int 1))))) (vRet (vCallV V_leaned (vCons (vOp gIx (vVar 0) (vC (.int 0))) (vCons (vOp gIx (vVar 0) (vC (.int 1))) (vCons (vOp gIx (vVar 0) (vC (.int 2))) (vCons (vCallV V_joined (vCons (vOp gIx (vVar 0) (vC (.int 3))) (vCons (vVar 1) (vCons (vVar 2) (vCons (vVar 3) (vNil)))))) (vNil))))))) (vNext))
    (vSeq (vIte (vTst (vOp gGtA (vCallV V_height (vCons (vVar 3) (vNil))) (vOp (gAdd false) (vCallV V_height (vCons (vVar 0) (vNil))) (vC (.int 1))))) (vRet (vCallV V_leaned (vCons (vCallV V_joined (vCons (vVar 0) (vCons (vVar 1) (vCons (vVar 2) (vCons (vOp gIx (vVar 3) (vC (.int 0))) (vNil)))))) (vCons (vOp gIx (vVar 3) (vC (.int 1))) (vCons (vOp gIx (vVar 3) (vC (.int 2))) (vCons (vOp gIx (vVar 3) (vC (.int 3))) (vNil))))))) (vNext))
    (vRet (vCallV V_node (vCons (vVar 0) (vCons (vVar 1) (vCons (vVar 2) (vCons (vVar 3) (vNil))))))))
set_option maxHeartbeats 4000000 in
theorem s_joined {F_height F_leaned F_joined F_node : FN} {V_height V_leaned V_joined V_node : VN}
    (n_height : NSim true [] F_height V_height) (e_height : ∀ ms, ms.length ≠ 1 → V_height ms = .no)
    (n_leaned : NSim true [] F_leaned V_leaned) (e_leaned : ∀ ms, ms.length ≠ 4 → V_leaned ms = .no)
    (n_joined : NSim true [] F_joined V_joined) (e_joined : ∀ ms, ms.length ≠ 4 → V_joined ms = .no)
    (n_node : NSim true [] F_node V_node) (e_node : ∀ ms, ms.length ≠ 4 → V_node ms = .no) : SimS true [] (f_joined F_height F_leaned F_joined F_node) (v_joined V_height V_leaned V_joined V_node) :=
  ss_seq (ss_ite (st_tst (se_op opv_gtA (se_callV n_height e_height (sa_cons (se_var 0) (sa_nil))) (se_op opv_add (se_callV n_height e_height (sa_cons (se_var 3) (sa_nil))) (se_c)))) (ss_ret (se_callV n_leaned e_leaned (sa_cons (se_op opv_ix (se_var 0) (se_c)) (sa_cons (se_op opv_ix (se_var 0) (se_c)) (sa_cons (se_op opv_ix (se_var 0) (se_c)) (sa_cons (se_callV n_joined e_joined (sa_cons (se_op opv_ix (se_var 0) (se_c)) (sa_cons (se_var 1) (sa_cons (se_var 2) (sa_cons (se_var 3) (sa_nil)))))) (sa_nil))))))) (ss_next))
    (ss_seq (ss_ite (st_tst (se_op opv_gtA (se_callV n_height e_height (sa_cons (se_var 3) (sa_nil))) (se_op opv_add (se_callV n_height e_height (sa_cons (se_var 0) (sa_nil))) (se_c)))) (ss_ret (se_callV n_leaned e_leaned (sa_cons (se_callV n_joined e_joined (sa_cons (se_var 0) (sa_cons (se_var 1) (sa_cons (se_var 2) (sa_cons (se_op opv_ix (se_var 3) (se_c)) (sa_nil)))))) (sa_cons (se_op opv_ix (se_var 3) (se_c)) (sa_cons (se_op opv_ix (se_var 3) (se_c)) (sa_cons (se_op opv_ix (se_var 3) (se_c)) (sa_nil))))))) (ss_next))
    (ss_ret (se_callV n_node e_node (sa_cons (se_var 0) (sa_cons (se_var 1) (sa_cons (se_var 2) (sa_cons (se_var 3) (sa_nil))))))))
def F_joined : Nat → FN
  | 0 => fun _ _ => .no
  | n + 1 => runF ["left", "key", "what", "right"] (f_joined F_height F_leaned (F_joined n) F_node)
def V_joined : Nat → VN
  | 0 => fun _ => .no
  | n + 1 => runV 4 4 (v_joined V_height V_leaned (V_joined n) V_node)
theorem e_joined : ∀ n ms, ms.length ≠ 4 → V_joined n ms = .no
  | 0 => fun _ _ => rfl
  | n + 1 => run_len
theorem n_joined : ∀ n, NSim true [] (F_joined n) (V_joined n)
  | 0 => ⟨fun _ _ _ _ _ _ => trivial⟩
  | n + 1 => nsim_fn (s_joined n_height e_height n_leaned e_leaned (n_joined n) (e_joined n) n_node e_node)
def f_behind (F_least F_joined F_without_least : FN) : FS :=
  fSeq (fIte (fTst (fOp gIs (fVar 1) (fC .non))) (fRet (fVar 0)) (fNext))
    (fSeq (fAsg (fCall (FN.len F_least 1) (fCons (fVar 1) (fNil))) (gtTup 2 (gtCons (gtName 2) (gtCons (gtName 3) (gtNil)))))
    (fRet (fCall (FN.len F_joined 4) (fCons (fVar 0) (fCons (fVar 2) (fCons (fVar 3) (fCons (fCall (FN.len F_without_least 1) (fCons (fVar 1) (fNil))) (fNil))))))))
def v_behind (V_least V_joined V_without_least : VN) : VS :=
  vSeq (vIte (vTst (vOp gIs (vVar 1) (vC .non))) (vRet (vVar 0)) (vNext))
    (vSeq (vAsg (vCallV V_least (vCons (vVar 1) (vNil))) (tTup 2 (tCons (tName 2) (tCons (tName 3) (tNil)))))
    (vRet (vCallV V_joined (vCons (vVar 0) (vCons (vVar 2) (vCons (vVar 3) (vCons (vCallV V_without_least (vCons (vVar 1) (vNil))) (vNil))))))))
set_option maxHeartbeats 4000000 in
theorem s_behind {F_least F_joined F_without_least : FN} {V_least V_joined V_without_least : VN}
    (n_least : NSim true [] F_least V_least) (e_least : ∀ ms, ms.length ≠ 1 → V_least ms = .no)
    (n_joined : NSim true [] F_joined V_joined) (e_joined : ∀ ms, ms.length ≠ 4 → V_joined ms = .no)
    (n_without_least : NSim true [] F_without_least V_without_least) (e_without_least : ∀ ms, ms.length ≠ 1 → V_without_least ms = .no) : SimS true [] (f_behind F_least F_joined F_without_least) (v_behind V_least V_joined V_without_least) :=
  ss_seq (ss_ite (st_tst (se_op opv_is (se_var 1) (se_c))) (ss_ret (se_var 0)) (ss_next))
    (ss_seq (ss_asg (se_callV n_least e_least (sa_cons (se_var 1) (sa_nil))) (sg_tup (sgs_cons (sg_name (by decide)) (sgs_cons (sg_name (by decide)) (sgs_nil)))))
    (ss_ret (se_callV n_joined e_joined (sa_cons (se_var 0) (sa_cons (se_var 2) (sa_cons (se_var 3) (sa_cons (se_callV n_without_least e_without_least (sa_cons (se_var 1) (sa_nil))) (sa_nil))))))))
def F_behind : FN := runF ["left", "right", "key", "what"] (f_behind F_least (F_joined 40) (F_without_least 40))
def V_behind : VN := runV 2 4 (v_behind V_least (V_joined 40) (V_without_least 40))
theorem n_behind : NSim true [] (F_behind) (V_behind) := nsim_fn (s_behind n_least e_least (n_joined 40) (e_joined 40) (n_without_least 40) (e_without_least 40))
theorem e_behind : ∀ ms, ms.length ≠ 2 → V_behind ms = .no := run_len
def f_split (F_split F_joined : FN) : FS :=
  fSeq (fIte (fTst (fOp gIs (fVar 0) (fC .non))) (fRet (fTup (fCons (fC .non) (fCons (fC .non) (fCons (fC .non) (fNil)))))) (fNext))
    (fSeq (fAsg (fSl false (fVar 0) (fNoPart) (fPart (fC (.int 4)))) (gtTup 4 (gtCons (gtName 2) (gtCons (gtName 3) (gtCons (gtName 4) (gtCons (gtName 5) (gtNil)))))))
    (fSeq (fIte (fTst (fOp gEq (fVar 1) (fVar 3))) (fRet (fTup (fCons (fVar 2) (fCons (fVar 4) (fCons (fVar 5) (fNil)))))) (fNext))
    (fSeq (fIte (fTst (fOp gLt (fVar 1) (fVar 3))) (fSeq (fAsg (fCall (FN.len F_split 2) (fCons (fVar 2) (fCons (fVar 1) (fNil)))) (gtTup 3 (gtCons (gtName 6) (gtCons (gtName 7) (gtCons (gtName 8) (gtNil))))))
    (fRet (fTup (fCons (fVar 6) (fCons (fVar 7) (fCons (fCall (FN.len F_joined 4) (fCons (fVar 8) (fCons (fVar 3) (fCons (fVar 4) (fCons (fVar 5) (fNil)))))) (fNil))))))) (fNext))
    (fSeq (fAsg (fCall (FN.len F_split 2) (fCons (fVar 5) (fCons (fVar 1) (fNil)))) (gtTup 3 (gtCons (gtName 6) (gtCons (gtName 7) (gtCons (gtName 8) (gtNil))))))
    (fRet (fTup (fCons (fCall (FN.len F_joined 4) (fCons (fVar 2) (fCons (fVar 3) (fCons (fVar 4) (fCons (fVar 6) (fNil)))))) (fCons (fVar 7) (fCons (fVar 8) (fNil))))))))))
def v_split (V_split V_joined : VN) : VS :=
  vSeq (vIte (vTst (vOp gIs (vVar 0) (vC .non))) (vRet (vTup (vCons (vC .non) (vCons (vC .non) (vCons (vC .non) (vNil)))))) (vNext))
    (vSeq (vAsg (vSl (vVar 0) (vNoPart) (vPart (vC (.int 4)))) (tTup 4 (tCons (tName 2) (tCons (tName 3) (tCons (tName 4) (tCons (tName 5) (tNil)))))))
    (vSeq (vIte (vTst (vOp gEq (vVar 1) (vVar 3))) (vRet (vTup (vCons (vVar 2) (vCons (vVar 4) (vCons (vVar 5) (vNil)))))) (vNext))
    (vSeq (vIte (vTst (vOp gLt (vVar 1) (vVar 3))) (vSeq (vAsg (vCallV V_split (vCons (vVar 2) (vCons (vVar 1) (vNil)))) (tTup 3 (tCons (tName 6) (tCons (tName 7) (tCons (tName 8) (tNil))))))
    (vRet (vTup (vCons (vVar 6) (vCons (vVar 7) (vCons (vCallV V_joined (vCons (vVar 8) (vCons (vVar 3) (vCons (vVar 4) (vCons (vVar 5) (vNil)))))) (vNil))))))) (vNext))
    (vSeq (vAsg (vCallV V_split (vCons (vVar 5) (vCons (vVar 1) (vNil)))) (tTup 3 (tCons (tName 6) (tCons (tName 7) (tCons (tName 8) (tNil))))))
    (vRet (vTup (vCons (vCallV V_joined (vCons (vVar 2) (vCons (vVar 3) (vCons (vVar 4) (vCons (vVar 6) (vNil)))))) (vCons (vVar 7) (vCons (vVar 8) (vNil))))))))))
set_option maxHeartbeats 4000000 in
theorem s_split {F_split F_joined : FN} {V_split V_joined : VN}
    (n_split : NSim true [] F_split V_split) (e_split : ∀ ms, ms.length ≠ 2 → V_split ms = .no)
    (n_joined : NSim true [] F_joined V_joined) (e_joined : ∀ ms, ms.length ≠ 4 → V_joined ms = .no) : SimS true [] (f_split F_split F_joined) (v_split V_split V_joined) :=
  ss_seq (ss_ite (st_tst (se_op opv_is (se_var 0) (se_c))) (ss_ret (se_tup (sa_cons (se_c) (sa_cons (se_c) (sa_cons (se_c) (sa_nil)))))) (ss_next))
    (ss_seq (ss_asg (se_sl (se_var 0) (sq_none) (sq_some (se_c))) (sg_tup (sgs_cons (sg_name (by decide)) (sgs_cons (sg_name (by decide)) (sgs_cons (sg_name (by decide)) (sgs_cons (sg_name (by decide)) (sgs_nil)))))))
    (ss_seq (ss_ite (st_tst (se_op opv_eq (se_var 1) (se_var 3))) (ss_ret (se_tup (sa_cons (se_var 2) (sa_cons (se_var 4) (sa_cons (se_var 5) (sa_nil)))))) (ss_next))
    (ss_seq (ss_ite (st_tst (se_op opv_lt (se_var 1) (se_var 3))) (ss_seq (ss_asg (se_callV n_split e_split (sa_cons (se_var 2) (sa_cons (se_var 1) (sa_nil)))) (sg_tup (sgs_cons (sg_name (by decide)) (sgs_cons (sg_name (by decide)) (sgs_cons (sg_name (by decide)) (sgs_nil))))))
    (ss_ret (se_tup (sa_cons (se_var 6) (sa_cons (se_var 7) (sa_cons (se_callV n_joined e_joined (sa_cons (se_var 8) (sa_cons (se_var 3) (sa_cons (se_var 4) (sa_cons (se_var 5) (sa_nil)))))) (sa_nil))))))) (ss_next))
    (ss_seq (ss_asg (se_callV n_split e_split (sa_cons (se_var 5) (sa_cons (se_var 1) (sa_nil)))) (sg_tup (sgs_cons (sg_name (by decide)) (sgs_cons (sg_name (by decide)) (sgs_cons (sg_name (by decide)) (sgs_nil))))))
    (ss_ret (se_tup (sa_cons (se_callV n_joined e_joined (sa_cons (se_var 2) (sa_cons (se_var 3) (sa_cons (se_var 4) (sa_cons (se_var 6) (sa_nil)))))) (sa_cons (se_var 7) (sa_cons (se_var 8) (sa_nil))))))))))
def F_split : Nat → FN
  | 0 => fun _ _ => .no
  | n + 1 => runF ["tree", "key", "left", "here", "told", "right", "low", "what", "high"] (f_split (F_split n) (F_joined 40))
def V_split : Nat → VN
  | 0 => fun _ => .no
  | n + 1 => runV 2 9 (v_split (V_split n) (V_joined 40))
theorem e_split : ∀ n ms, ms.length ≠ 2 → V_split n ms = .no
  | 0 => fun _ _ => rfl
  | n + 1 => run_len
theorem n_split : ∀ n, NSim true [] (F_split n) (V_split n)
  | 0 => ⟨fun _ _ _ _ _ _ => trivial⟩
  | n + 1 => nsim_fn (s_split (n_split n) (e_split n) (n_joined 40) (e_joined 40))
def f_put_together (F_split F_joined F_put_together : FN) : FS :=
  fSeq (fIte (fTst (fOp gIs (fVar 0) (fC .non))) (fRet (fVar 1)) (fNext))
    (fSeq (fAsg (fCall (FN.len F_split 2) (fCons (fVar 1) (fCons (fOp gIx (fVar 0) (fC (.int 1))) (fNil)))) (gtTup 3 (gtCons (gtName 2) (gtCons (gtName 3) (gtCons (gtName 4) (gtNil))))))
    (fRet (fCall (FN.len F_joined 4) (fCons (fCall (FN.len F_put_together 2) (fCons (fOp gIx (fVar 0) (fC (.int 0))) (fCons (fVar 2) (fNil)))) (fCons (fOp gIx (fVar 0) (fC (.int 1))) (fCons (fOp gIx (fVar 0) (fC (.int 2))) (fCons (fCall (FN.len F_put_together 2) (fCons (fOp gIx (fVar 0) (fC (.int 3))) (fCons (fVar 4) (fNil)))) (fNil))))))))
def v_put_together (V_split V_joined V_put_together : VN) : VS :=
  vSeq (vIte (vTst (vOp gIs (vVar 0) (vC .non))) (vRet (vVar 1)) (vNext))
    (vSeq (vAsg (vCallV V_split (vCons (vVar 1) (vCons (vOp gIx (vVar 0) (vC (.int 1))) (vNil)))) (tTup 3 (tCons (tName 2) (tCons (tName 3) (tCons (tName 4) (tNil))))))
    (vRet (vCallV V_joined (vCons (vCallV V_put_together (vCons (vOp gIx (vVar 0) (vC (.int 0))) (vCons (vVar 2) (vNil)))) (vCons (vOp gIx (vVar 0) (vC (.int 1))) (vCons (vOp gIx (vVar 0) (vC (.int 2))) (vCons (vCallV V_put_together (vCons (vOp gIx (vVar 0) (vC (.int 3))) (vCons (vVar 4) (vNil)))) (vNil))))))))
set_option maxHeartbeats 4000000 in
theorem s_put_together {F_split F_joined F_put_together : FN} {V_split V_joined V_put_together : VN}
    (n_split : NSim true [] F_split V_split) (e_split : ∀ ms, ms.length ≠ 2 → V_split ms = .no)
    (n_joined : NSim true [] F_joined V_joined) (e_joined : ∀ ms, ms.length ≠ 4 → V_joined ms = .no)
    (n_put_together : NSim true [] F_put_together V_put_together) (e_put_together : ∀ ms, ms.length ≠ 2 → V_put_together ms = .no) : SimS true [] (f_put_together F_split F_joined F_put_together) (v_put_together V_split V_joined V_put_together) :=
  ss_seq (ss_ite (st_tst (se_op opv_is (se_var 0) (se_c))) (ss_ret (se_var 1)) (ss_next))
    (ss_seq (ss_asg (se_callV n_split e_split (sa_cons (se_var 1) (sa_cons (se_op opv_ix (se_var 0) (se_c)) (sa_nil)))) (sg_tup (sgs_cons (sg_name (by decide)) (sgs_cons (sg_name (by decide)) (sgs_cons (sg_name (by decide)) (sgs_nil))))))
    (ss_ret (se_callV n_joined e_joined (sa_cons (se_callV n_put_together e_put_together (sa_cons (se_op opv_ix (se_var 0) (se_c)) (sa_cons (se_var 2) (sa_nil)))) (sa_cons (se_op opv_ix (se_var 0) (se_c)) (sa_cons (se_op opv_ix (se_var 0) (se_c)) (sa_cons (se_callV n_put_together e_put_together (sa_cons (se_op opv_ix (se_var 0) (se_c)) (sa_cons (se_var 4) (sa_nil)))) (sa_nil))))))))
def F_put_together : Nat → FN
  | 0 => fun _ _ => .no
  | n + 1 => runF ["one", "other", "low", "what", "high"] (f_put_together (F_split 40) (F_joined 40) (F_put_together n))
def V_put_together : Nat → VN
  | 0 => fun _ => .no
  | n + 1 => runV 2 5 (v_put_together (V_split 40) (V_joined 40) (V_put_together n))
theorem e_put_together : ∀ n ms, ms.length ≠ 2 → V_put_together n ms = .no
  | 0 => fun _ _ => rfl
  | n + 1 => run_len
theorem n_put_together : ∀ n, NSim true [] (F_put_together n) (V_put_together n)
  | 0 => ⟨fun _ _ _ _ _ _ => trivial⟩
  | n + 1 => nsim_fn (s_put_together (n_split 40) (e_split 40) (n_joined 40) (e_joined 40) (n_put_together n) (e_put_together n))
def f_shared (F_split F_shared F_behind F_joined : FN) : FS :=
  fSeq (fIte (fOrT (fTst (fOp gIs (fVar 0) (fC .non))) (fTst (fOp gIs (fVar 1) (fC .non)))) (fRet (fC .non)) (fNext))
    (fSeq (fAsg (fCall (FN.len F_split 2) (fCons (fVar 1) (fCons (fOp gIx (fVar 0) (fC (.int 1))) (fNil)))) (gtTup 3 (gtCons (gtName 2) (gtCons (gtName 3) (gtCons (gtName 4) (gtNil))))))
    (fSeq (fPar 5 6 (fCons (fCall (FN.len F_shared 2) (fCons (fOp gIx (fVar 0) (fC (.int 0))) (fCons (fVar 2) (fNil)))) (fCons (fCall (FN.len F_shared 2) (fCons (fOp gIx (fVar 0) (fC (.int 3))) (fCons (fVar 4) (fNil)))) (fNil))))
    (fRet (fIf (fTst (fOp gIs (fVar 3) (fC .non))) (fCall (FN.len F_behind 2) (fCons (fVar 5) (fCons (fVar 6) (fNil)))) (fCall (FN.len F_joined 4) (fCons (fVar 5) (fCons (fOp gIx (fVar 0) (fC (.int 1))) (fCons (fOp gIx (fVar 0) (fC (.int 2))) (fCons (fVar 6) (fNil))))))))))
def v_shared (V_split V_shared V_behind V_joined : VN) : VS :=
  vSeq (vIte (vOrT (vTst (vOp gIs (vVar 0) (vC .non))) (vTst (vOp gIs (vVar 1) (vC .non)))) (vRet (vC .non)) (vNext))
    (vSeq (vAsg (vCallV V_split (vCons (vVar 1) (vCons (vOp gIx (vVar 0) (vC (.int 1))) (vNil)))) (tTup 3 (tCons (tName 2) (tCons (tName 3) (tCons (tName 4) (tNil))))))
    (vSeq (vPar 5 6 (vCons (vCallV V_shared (vCons (vOp gIx (vVar 0) (vC (.int 0))) (vCons (vVar 2) (vNil)))) (vCons (vCallV V_shared (vCons (vOp gIx (vVar 0) (vC (.int 3))) (vCons (vVar 4) (vNil)))) (vNil))))
    (vRet (vIf (vTst (vOp gIs (vVar 3) (vC .non))) (vCallV V_behind (vCons (vVar 5) (vCons (vVar 6) (vNil)))) (vCallV V_joined (vCons (vVar 5) (vCons (vOp gIx (vVar 0) (vC (.int 1))) (vCons (vOp gIx (vVar 0) (vC (.int 2))) (vCons (vVar 6) (vNil))))))))))
set_option maxHeartbeats 4000000 in
theorem s_shared {F_split F_shared F_behind F_joined : FN} {V_split V_shared V_behind V_joined : VN}
    (n_split : NSim true [] F_split V_split) (e_split : ∀ ms, ms.length ≠ 2 → V_split ms = .no)
    (n_shared : NSim true [] F_shared V_shared) (e_shared : ∀ ms, ms.length ≠ 2 → V_shared ms = .no)
    (n_behind : NSim true [] F_behind V_behind) (e_behind : ∀ ms, ms.length ≠ 2 → V_behind ms = .no)
    (n_joined : NSim true [] F_joined V_joined) (e_joined : ∀ ms, ms.length ≠ 4 → V_joined ms = .no) : SimS true [] (f_shared F_split F_shared F_behind F_joined) (v_shared V_split V_shared V_behind V_joined) :=
  ss_seq (ss_ite (st_or (st_tst (se_op opv_is (se_var 0) (se_c))) (st_tst (se_op opv_is (se_var 1) (se_c)))) (ss_ret (se_c)) (ss_next))
    (ss_seq (ss_asg (se_callV n_split e_split (sa_cons (se_var 1) (sa_cons (se_op opv_ix (se_var 0) (se_c)) (sa_nil)))) (sg_tup (sgs_cons (sg_name (by decide)) (sgs_cons (sg_name (by decide)) (sgs_cons (sg_name (by decide)) (sgs_nil))))))
    (ss_seq (ss_par (by decide) (by decide) (sa_cons (se_callV n_shared e_shared (sa_cons (se_op opv_ix (se_var 0) (se_c)) (sa_cons (se_var 2) (sa_nil)))) (sa_cons (se_callV n_shared e_shared (sa_cons (se_op opv_ix (se_var 0) (se_c)) (sa_cons (se_var 4) (sa_nil)))) (sa_nil))))
    (ss_ret (se_if (st_tst (se_op opv_is (se_var 3) (se_c))) (se_callV n_behind e_behind (sa_cons (se_var 5) (sa_cons (se_var 6) (sa_nil)))) (se_callV n_joined e_joined (sa_cons (se_var 5) (sa_cons (se_op opv_ix (se_var 0) (se_c)) (sa_cons (se_op opv_ix (se_var 0) (se_c)) (sa_cons (se_var 6) (sa_nil))))))))))
def F_shared : Nat → FN
  | 0 => fun _ _ => .no
  | n + 1 => runF ["one", "other", "low", "what", "high", "left", "right"] (f_shared (F_split 40) (F_shared n) F_behind (F_joined 40))
def V_shared : Nat → VN
  | 0 => fun _ => .no
  | n + 1 => runV 2 7 (v_shared (V_split 40) (V_shared n) V_behind (V_joined 40))
theorem e_shared : ∀ n ms, ms.length ≠ 2 → V_shared n ms = .no
  | 0 => fun _ _ => rfl
  | n + 1 => run_len
theorem n_shared : ∀ n, NSim true [] (F_shared n) (V_shared n)
  | 0 => ⟨fun _ _ _ _ _ _ => trivial⟩
  | n + 1 => nsim_fn (s_shared (n_split 40) (e_split 40) (n_shared n) (e_shared n) n_behind e_behind (n_joined 40) (e_joined 40))
def f_less (F_split F_behind F_less : FN) : FS :=
  fSeq (fIte (fOrT (fTst (fOp gIs (fVar 0) (fC .non))) (fTst (fOp gIs (fVar 1) (fC .non)))) (fRet (fVar 0)) (fNext))
    (fSeq (fAsg (fCall (FN.len F_split 2) (fCons (fVar 0) (fCons (fOp gIx (fVar 1) (fC (.int 1))) (fNil)))) (gtTup 3 (gtCons (gtName 2) (gtCons (gtName 3) (gtCons (gtName 4) (gtNil))))))
    (fRet (fCall (FN.len F_behind 2) (fCons (fCall (FN.len F_less 2) (fCons (fVar 2) (fCons (fOp gIx (fVar 1) (fC (.int 0))) (fNil)))) (fCons (fCall (FN.len F_less 2) (fCons (fVar 4) (fCons (fOp gIx (fVar 1) (fC (.int 3))) (fNil)))) (fNil))))))
def v_less (V_split V_behind V_less : VN) : VS :=
  vSeq (vIte (vOrT (vTst (vOp gIs (vVar 0) (vC .non))) (vTst (vOp gIs (vVar 1) (vC .non)))) (vRet (vVar 0)) (vNext))
    (vSeq (vAsg (vCallV V_split (vCons (vVar 0) (vCons (vOp gIx (vVar 1) (vC (.int 1))) (vNil)))) (tTup 3 (tCons (tName 2) (tCons (tName 3) (tCons (tName 4) (tNil))))))
    (vRet (vCallV V_behind (vCons (vCallV V_less (vCons (vVar 2) (vCons (vOp gIx (vVar 1) (vC (.int 0))) (vNil)))) (vCons (vCallV V_less (vCons (vVar 4) (vCons (vOp gIx (vVar 1) (vC (.int 3))) (vNil)))) (vNil))))))
set_option maxHeartbeats 4000000 in
theorem s_less {F_split F_behind F_less : FN} {V_split V_behind V_less : VN}
    (n_split : NSim true [] F_split V_split) (e_split : ∀ ms, ms.length ≠ 2 → V_split ms = .no)
    (n_behind : NSim true [] F_behind V_behind) (e_behind : ∀ ms, ms.length ≠ 2 → V_behind ms = .no)
    (n_less : NSim true [] F_less V_less) (e_less : ∀ ms, ms.length ≠ 2 → V_less ms = .no) : SimS true [] (f_less F_split F_behind F_less) (v_less V_split V_behind V_less) :=
  ss_seq (ss_ite (st_or (st_tst (se_op opv_is (se_var 0) (se_c))) (st_tst (se_op opv_is (se_var 1) (se_c)))) (ss_ret (se_var 0)) (ss_next))
    (ss_seq (ss_asg (se_callV n_split e_split (sa_cons (se_var 0) (sa_cons (se_op opv_ix (se_var 1) (se_c)) (sa_nil)))) (sg_tup (sgs_cons (sg_name (by decide)) (sgs_cons (sg_name (by decide)) (sgs_cons (sg_name (by decide)) (sgs_nil))))))
    (ss_ret (se_callV n_behind e_behind (sa_cons (se_callV n_less e_less (sa_cons (se_var 2) (sa_cons (se_op opv_ix (se_var 1) (se_c)) (sa_nil)))) (sa_cons (se_callV n_less e_less (sa_cons (se_var 4) (sa_cons (se_op opv_ix (se_var 1) (se_c)) (sa_nil)))) (sa_nil))))))
def F_less : Nat → FN
  | 0 => fun _ _ => .no
  | n + 1 => runF ["one", "other", "low", "what", "high"] (f_less (F_split 40) F_behind (F_less n))
def V_less : Nat → VN
  | 0 => fun _ => .no
  | n + 1 => runV 2 5 (v_less (V_split 40) V_behind (V_less n))
theorem e_less : ∀ n ms, ms.length ≠ 2 → V_less n ms = .no
  | 0 => fun _ _ => rfl
  | n + 1 => run_len
theorem n_less : ∀ n, NSim true [] (F_less n) (V_less n)
  | 0 => ⟨fun _ _ _ _ _ _ => trivial⟩
  | n + 1 => nsim_fn (s_less (n_split 40) (e_split 40) n_behind e_behind (n_less n) (e_less n))
def f_pairs_c2 : FT :=
  fTst (fOp gIsNot (fVar 0) (fC .non))
def f_pairs_b2 : FS :=
  fSeq (fExpr (fBM "list" gAppend (fVar 2) (fCons (fVar 0) (fNil))))
    (fAsg (fOp gIx (fVar 0) (fC (.int 0))) (gtName 0))
def f_pairs_c1 : FT :=
  fOrT (fTst (fOp gIsNot (fVar 0) (fC .non))) (fTst (fOp gNe (fVar 2) (fLst false (fNil))))
def f_pairs_b1 : FS :=
  fSeq (fWhile (f_pairs_c2) (f_pairs_b2) 100000)
    (fSeq (fAsg (fBM "list" gPop (fVar 2) (fNil)) (gtName 0))
    (fSeq (fExpr (fBM "list" gAppend (fVar 1) (fCons (fTup (fCons (fOp gIx (fVar 0) (fC (.int 1))) (fCons (fOp gIx (fVar 0) (fC (.int 2))) (fNil)))) (fNil))))
    (fAsg (fOp gIx (fVar 0) (fC (.int 3))) (gtName 0))))
def f_pairs : FS :=
  fSeq (fPar 1 2 (fCons (fLst true (fNil)) (fCons (fLst true (fNil)) (fNil))))
    (fSeq (fWhile (f_pairs_c1) (f_pairs_b1) 100000)
    (fRet (fCB gTuple (fCons (fVar 1) (fNil)))))
def v_pairs_c2 : VT :=
  vTst (vOp gIsNot (vVar 0) (vC .non))
def v_pairs_b2 : VS :=
  vSeq (vExpr (vMut "list" V_append (pVar 2) (vCons (vVar 0) (vNil))))
    (vAsg (vOp gIx (vVar 0) (vC (.int 0))) (tName 0))
def v_pairs_c1 : VT :=
  vOrT (vTst (vOp gIsNot (vVar 0) (vC .non))) (vTst (vOp gNe (vLk 2) (vLst (vNil))))
def v_pairs_b1 : VS :=
  vSeq (vWhile (v_pairs_c2) (v_pairs_b2) 100000)
    (vSeq (vAsg (vMut "list" V_pop (pVar 2) (vNil)) (tName 0))
    (vSeq (vExpr (vMut "list" V_append (pVar 1) (vCons (vTup (vCons (vOp gIx (vVar 0) (vC (.int 1))) (vCons (vOp gIx (vVar 0) (vC (.int 2))) (vNil)))) (vNil))))
    (vAsg (vOp gIx (vVar 0) (vC (.int 3))) (tName 0))))
def v_pairs : VS :=
  vSeq (vPar 1 2 (vCons (vLstN (vNil)) (vCons (vLstN (vNil)) (vNil))))
    (vSeq (vWhile (v_pairs_c1) (v_pairs_b1) 100000)
    (vRet (vCB gTuple (vCons (vLk 1) (vNil)))))
set_option maxHeartbeats 4000000 in
theorem s_pairs : SimS false [] (f_pairs) (v_pairs) :=
  ss_seq (ss_par (by decide) (by decide) (sa_cons (se_lstN (sa_nil)) (sa_cons (se_lstN (sa_nil)) (sa_nil))))
    (ss_seq (ss_while 100000 (st_or (st_tst (se_op opv_isnot (se_var 0) (se_c))) (st_tst (se_op opv_ne (se_lk 2) (se_lst (sa_nil))))) (ss_seq (ss_while 100000 (st_tst (se_op opv_isnot (se_var 0) (se_c))) (ss_seq (ss_expr (se_mut n_append (sp_var 2) (sa_cons (se_var 0) (sa_nil))))
    (ss_asg (se_op opv_ix (se_var 0) (se_c)) (sg_name (by decide)))))
    (ss_seq (ss_asg (se_mut n_pop (sp_var 2) (sa_nil)) (sg_name (by decide)))
    (ss_seq (ss_expr (se_mut n_append (sp_var 1) (sa_cons (se_tup (sa_cons (se_op opv_ix (se_var 0) (se_c)) (sa_cons (se_op opv_ix (se_var 0) (se_c)) (sa_nil)))) (sa_nil))))
    (ss_asg (se_op opv_ix (se_var 0) (se_c)) (sg_name (by decide)))))))
    (ss_ret (se_cb cv_tuple (sav_cons (se_lk 1) (sav_nil)))))
def F_pairs : FN := runF ["tree", "found", "left"] (f_pairs)
def V_pairs : VN := runV 1 3 (v_pairs)
theorem n_pairs : NSim false [] (F_pairs) (V_pairs) := nsim_fn (s_pairs)
theorem e_pairs : ∀ ms, ms.length ≠ 1 → V_pairs ms = .no := run_len
def f_look_c1 (F_node F_height F_pairs : FN) : FT :=
  fTst (fOp gNe (fVar 1) (fLst false (fNil)))
def f_look_b1 (F_node F_height F_pairs : FN) : FS :=
  fSeq (fAsg (fBM "list" gPop (fVar 1) (fNil)) (gtName 3))
    (fIte (fTst (fOp gIsNot (fVar 3) (fC .non))) (fSeq (fIte (fOrT (fTst (fOp gNe (fSl false (fVar 3) (fNoPart) (fPart (fC (.int 6)))) (fCall (FN.len F_node 4) (fCons (fOp gIx (fVar 3) (fC (.int 0))) (fCons (fOp gIx (fVar 3) (fC (.int 1))) (fCons (fOp gIx (fVar 3) (fC (.int 2))) (fCons (fOp gIx (fVar 3) (fC (.int 3))) (fNil)))))))) (fTst (fOp gGtA (fCB gAbs (fCons (fOp gMinus (fCall (FN.len F_height 1) (fCons (fOp gIx (fVar 3) (fC (.int 0))) (fNil))) (fCall (FN.len F_height 1) (fCons (fOp gIx (fVar 3) (fC (.int 3))) (fNil)))) (fNil))) (fC (.int 1))))) (fDead) (fNext))
    (fSeq (fAug 2 (fC (.int 1)) (gI fun i j => i + j))
    (fExpr (fBM "list" gExtend (fVar 1) (fCons (fLst false (fCons (fOp gIx (fVar 3) (fC (.int 3))) (fCons (fOp gIx (fVar 3) (fC (.int 0))) (fNil)))) (fNil)))))) (fNext))
def f_look_b2 (F_node F_height F_pairs : FN) : FS :=
  fIte (fTst (fOp gGe (fOp gIx (fVar 4) (fVar 5)) (fOp gIx (fVar 4) (fOp (gAdd false) (fVar 5) (fC (.int 1)))))) (fDead) (fNext)
def f_look (F_node F_height F_pairs : FN) : FS :=
  fSeq (fPar 1 2 (fCons (fLst true (fCons (fVar 0) (fNil))) (fCons (fC (.int 0)) (fNil))))
    (fSeq (fWhile (f_look_c1 F_node F_height F_pairs) (f_look_b1 F_node F_height F_pairs) 100000)
    (fSeq (fAsg (fLc 100000 false [6, 7] (fiSeq (fCall (FN.len F_pairs 1) (fCons (fVar 0) (fNil)))) (gtPair 6 7) (fYes) (fVar 6)) (gtName 4))
    (fFor 100000 (fiRng1 (fCons (fOp gMinus (fCB gLen (fCons (fVar 4) (fNil))) (fC (.int 1))) (fNil))) (gtName 5) (f_look_b2 F_node F_height F_pairs))))
def v_look_c1 (V_node V_height V_pairs : VN) : VT :=
  vTst (vOp gNe (vLk 1) (vLst (vNil)))
def v_look_b1 (V_node V_height V_pairs : VN) : VS :=
  vSeq (vAsg (vMut "list" V_pop (pVar 1) (vNil)) (tName 3))
    (vIte (vTst (vOp gIsNot (vVar 3) (vC .non))) (vSeq (vIte (vOrT (vTst (vOp gNe (vSl (vVar 3) (vNoPart) (vPart (vC (.int 6)))) (vCallV V_node (vCons (vOp gIx (vVar 3) (vC (.int 0))) (vCons (vOp gIx (vVar 3) (vC (.int 1))) (vCons (vOp gIx (vVar 3) (vC (.int 2))) (vCons (vOp gIx (vVar 3) (vC (.int 3))) (vNil)))))))) (vTst (vOp gGtA (vCB gAbs (vCons (vOp gMinus (vCallV V_height (vCons (vOp gIx (vVar 3) (vC (.int 0))) (vNil))) (vCallV V_height (vCons (vOp gIx (vVar 3) (vC (.int 3))) (vNil)))) (vNil))) (vC (.int 1))))) (vDead) (vNext))
    (vSeq (vAug 2 (vC (.int 1)) (gI fun i j => i + j))
    (vExpr (vMut "list" V_extend (pVar 1) (vCons (vLst (vCons (vOp gIx (vVar 3) (vC (.int 3))) (vCons (vOp gIx (vVar 3) (vC (.int 0))) (vNil)))) (vNil)))))) (vNext))
def v_look_b2 (V_node V_height V_pairs : VN) : VS :=
  vIte (vTst (vOp gGe (vOp gIx (vVar 4) (vVar 5)) (vOp gIx (vVar 4) (vOp (gAdd false) (vVar 5) (vC (.int 1)))))) (vDead) (vNext)
def v_look (V_node V_height V_pairs : VN) : VS :=
  vSeq (vPar 1 2 (vCons (vLstN (vCons (vVar 0) (vNil))) (vCons (vC (.int 0)) (vNil))))
    (vSeq (vWhile (v_look_c1 V_node V_height V_pairs) (v_look_b1 V_node V_height V_pairs) 100000)
    (vSeq (vAsg (vLc [6, 7] (viSeq (vCallV V_pairs (vCons (vVar 0) (vNil)))) (tPair 6 7) (vYes) (vVar 6)) (tName 4))
    (vFor (viRng (vCons (vOp gMinus (vCB gLen (vCons (vVar 4) (vNil))) (vC (.int 1))) (vNil))) (tName 5) (v_look_b2 V_node V_height V_pairs))))
set_option maxHeartbeats 4000000 in
theorem s_look {F_node F_height F_pairs : FN} {V_node V_height V_pairs : VN}
    (n_node : NSim true [] F_node V_node) (e_node : ∀ ms, ms.length ≠ 4 → V_node ms = .no)
    (n_height : NSim true [] F_height V_height) (e_height : ∀ ms, ms.length ≠ 1 → V_height ms = .no)
    (n_pairs : NSim false [] F_pairs V_pairs) (e_pairs : ∀ ms, ms.length ≠ 1 → V_pairs ms = .no) : SimS false [] (f_look F_node F_height F_pairs) (v_look V_node V_height V_pairs) :=
  ss_seq (ss_par (by decide) (by decide) (sa_cons (se_lstN (sa_cons (se_var 0) (sa_nil))) (sa_cons (se_c) (sa_nil))))
    (ss_seq (ss_while 100000 (st_tst (se_op opv_ne (se_lk 1) (se_lst (sa_nil)))) (ss_seq (ss_asg (se_mut n_pop (sp_var 1) (sa_nil)) (sg_name (by decide)))
    (ss_ite (st_tst (se_op opv_isnot (se_var 3) (se_c))) (ss_seq (ss_ite (st_or (st_tst (se_op opv_ne (se_sl (se_var 3) (sq_none) (sq_some (se_c))) (se_callV n_node e_node (sa_cons (se_op opv_ix (se_var 3) (se_c)) (sa_cons (se_op opv_ix (se_var 3) (se_c)) (sa_cons (se_op opv_ix (se_var 3) (se_c)) (sa_cons (se_op opv_ix (se_var 3) (se_c)) (sa_nil)))))))) (st_tst (se_op opv_gtA (se_cb cv_abs (sav_cons (se_op opv_sub (se_callV n_height e_height (sa_cons (se_op opv_ix (se_var 3) (se_c)) (sa_nil))) (se_callV n_height e_height (sa_cons (se_op opv_ix (se_var 3) (se_c)) (sa_nil)))) (sav_nil))) (se_c)))) (ss_dead) (ss_next))
    (ss_seq (ss_aug (by decide) (opv_I _) (se_c))
    (ss_expr (se_mut n_extend (sp_var 1) (sa_cons (se_lst (sa_cons (se_op opv_ix (se_var 3) (se_c)) (sa_cons (se_op opv_ix (se_var 3) (se_c)) (sa_nil)))) (sa_nil)))))) (ss_next))))
    (ss_seq (ss_asg (se_lc (sf_seq (se_callV n_pairs e_pairs (sa_cons (se_var 0) (sa_nil)))) (so_pair (i := 6) (j := 7) (by decide)) (st_yes) (se_var 6)) (sg_name (by decide)))
    (ss_for (sf_rng1 (sav_cons (se_op opv_sub (se_cb cv_len (sav_cons (se_var 4) (sav_nil))) (se_c)) (sav_nil)) (len_cons len_nil)) (sg_name (by decide)) (ss_ite (st_tst (se_op opv_ge (se_op opv_ix (se_var 4) (se_var 5)) (se_op opv_ix (se_var 4) (se_op opv_add (se_var 5) (se_c))))) (ss_dead) (ss_next)))))
def F_look : FN := runF ["tree", "left", "number", "here", "row", "k", "key", "what"] (f_look F_node F_height F_pairs)
def V_look : VN := runV 1 8 (v_look V_node V_height V_pairs)
theorem n_look : NSim false [] (F_look) (V_look) := nsim_fn (s_look n_node e_node n_height e_height n_pairs e_pairs)
theorem e_look : ∀ ms, ms.length ≠ 1 → V_look ms = .no := run_len
def f__law_tree_b1 (F_put : FN) : FS :=
  fAsg (fCall (FN.len F_put 3) (fCons (fVar 1) (fCons (fVar 2) (fCons (fC (.str "x")) (fNil))))) (gtName 1)
def f__law_tree (F_put : FN) : FS :=
  fSeq (fAsg (fC .non) (gtName 1))
    (fSeq (fFor 100000 (fiSeq (fVar 0)) (gtName 2) (f__law_tree_b1 F_put))
    (fRet (fVar 1)))
def v__law_tree_b1 (V_put : VN) : VS :=
  vAsg (vCallV V_put (vCons (vVar 1) (vCons (vVar 2) (vCons (vC (.str "x")) (vNil))))) (tName 1)
def v__law_tree (V_put : VN) : VS :=
  vSeq (vAsg (vC .non) (tName 1))
    (vSeq (vFor (viSeq (vVar 0)) (tName 2) (v__law_tree_b1 V_put))
    (vRet (vVar 1)))
set_option maxHeartbeats 4000000 in
theorem s__law_tree {F_put : FN} {V_put : VN}
    (n_put : NSim true [] F_put V_put) (e_put : ∀ ms, ms.length ≠ 3 → V_put ms = .no) : SimS true [] (f__law_tree F_put) (v__law_tree V_put) :=
  ss_seq (ss_asg (se_c) (sg_name (by decide)))
    (ss_seq (ss_for (sf_seq (se_var 0)) (sg_name (by decide)) (ss_asg (se_callV n_put e_put (sa_cons (se_var 1) (sa_cons (se_var 2) (sa_cons (se_c) (sa_nil))))) (sg_name (by decide))))
    (ss_ret (se_var 1)))
def F__law_tree (C_BadKey : Addr) : FN := runF ["row", "tree", "key"] (f__law_tree (F_put C_BadKey 40))
def V__law_tree (C_BadKey : Addr) : VN := runV 1 3 (v__law_tree (V_put C_BadKey 40))
theorem n__law_tree (C_BadKey : Addr) : NSim true [] (F__law_tree C_BadKey) (V__law_tree C_BadKey) := nsim_fn (s__law_tree (n_put C_BadKey 40) (e_put C_BadKey 40))
theorem e__law_tree (C_BadKey : Addr) : ∀ ms, ms.length ≠ 1 → V__law_tree C_BadKey ms = .no := run_len
def f__law_keys (F_look F_pairs : FN) : FS :=
  fSeq (fExpr (fCall (FN.len F_look 1) (fCons (fVar 0) (fNil))))
    (fRet (fLc 100000 false [1, 2] (fiSeq (fCall (FN.len F_pairs 1) (fCons (fVar 0) (fNil)))) (gtPair 1 2) (fYes) (fVar 1)))
def v__law_keys (V_look V_pairs : VN) : VS :=
  vSeq (vExpr (vCallV V_look (vCons (vVar 0) (vNil))))
    (vRet (vLc [1, 2] (viSeq (vCallV V_pairs (vCons (vVar 0) (vNil)))) (tPair 1 2) (vYes) (vVar 1)))
set_option maxHeartbeats 4000000 in
theorem s__law_keys {F_look F_pairs : FN} {V_look V_pairs : VN}
    (n_look : NSim false [] F_look V_look) (e_look : ∀ ms, ms.length ≠ 1 → V_look ms = .no)
    (n_pairs : NSim false [] F_pairs V_pairs) (e_pairs : ∀ ms, ms.length ≠ 1 → V_pairs ms = .no) : SimS true [] (f__law_keys F_look F_pairs) (v__law_keys V_look V_pairs) :=
  ss_seq (ss_expr (se_callV n_look e_look (sa_cons (se_var 0) (sa_nil))))
    (ss_ret (se_lc (sf_seq (se_callV n_pairs e_pairs (sa_cons (se_var 0) (sa_nil)))) (so_pair (i := 1) (j := 2) (by decide)) (st_yes) (se_var 1)))
def F__law_keys : FN := runF ["tree", "key", "what"] (f__law_keys F_look F_pairs)
def V__law_keys : VN := runV 1 3 (v__law_keys V_look V_pairs)
theorem n__law_keys : NSim true [] (F__law_keys) (V__law_keys) := nsim_fn (s__law_keys n_look e_look n_pairs e_pairs)
theorem e__law_keys : ∀ ms, ms.length ≠ 1 → V__law_keys ms = .no := run_len
def f_law_b1 (F__law_rounds F__law_tree F__law_row F_shared F_put_together F__law_keys F_less F__law_roll F_split F_joined : FN) : FS :=
  fSeq (fAsg (fLc 100000 false [11] (fiRng1 (fCons (fC (.int 3)) (fNil))) (gtName 11) (fYes) (fCall (FN.len F__law_tree 1) (fCons (fCall (FN.len F__law_row 3) (fCons (fVar 1) (fCons (fC (.int 10)) (fCons (fC (.int 12)) (fNil))))) (fNil)))) (gtLst 3 (gtCons (gtName 2) (gtCons (gtName 3) (gtCons (gtName 4) (gtNil))))))
    (fSeq (fPar 5 6 (fCons (fCall (FN.len F_put_together 2) (fCons (fVar 2) (fCons (fVar 3) (fNil)))) (fCons (fCall (FN.len F_shared 2) (fCons (fVar 2) (fCons (fVar 3) (fNil)))) (fNil))))
    (fSeq (fIte (fOrT (fTst (fOp gNe (fCall (FN.len F__law_keys 1) (fCons (fVar 5) (fNil))) (fCall (FN.len F__law_keys 1) (fCons (fCall (FN.len F_put_together 2) (fCons (fVar 3) (fCons (fVar 2) (fNil)))) (fNil))))) (fTst (fOp gNe (fCall (FN.len F__law_keys 1) (fCons (fVar 6) (fNil))) (fCall (FN.len F__law_keys 1) (fCons (fCall (FN.len F_shared 2) (fCons (fVar 3) (fCons (fVar 2) (fNil)))) (fNil)))))) (fRet (fC (.bl false))) (fNext))
    (fSeq (fIte (fTst (fOp gNe (fCall (FN.len F__law_keys 1) (fCons (fCall (FN.len F_put_together 2) (fCons (fVar 5) (fCons (fVar 4) (fNil)))) (fNil))) (fCall (FN.len F__law_keys 1) (fCons (fCall (FN.len F_put_together 2) (fCons (fVar 2) (fCons (fCall (FN.len F_put_together 2) (fCons (fVar 3) (fCons (fVar 4) (fNil)))) (fNil)))) (fNil))))) (fRet (fC (.bl false))) (fNext))
    (fSeq (fIte (fTst (fOp gNe (fCall (FN.len F__law_keys 1) (fCons (fCall (FN.len F_shared 2) (fCons (fVar 6) (fCons (fVar 4) (fNil)))) (fNil))) (fCall (FN.len F__law_keys 1) (fCons (fCall (FN.len F_shared 2) (fCons (fVar 2) (fCons (fCall (FN.len F_shared 2) (fCons (fVar 3) (fCons (fVar 4) (fNil)))) (fNil)))) (fNil))))) (fRet (fC (.bl false))) (fNext))
    (fSeq (fIte (fTst (fOp gNe (fCall (FN.len F__law_keys 1) (fCons (fCall (FN.len F_shared 2) (fCons (fVar 2) (fCons (fCall (FN.len F_put_together 2) (fCons (fVar 3) (fCons (fVar 4) (fNil)))) (fNil)))) (fNil))) (fCall (FN.len F__law_keys 1) (fCons (fCall (FN.len F_put_together 2) (fCons (fVar 6) (fCons (fCall (FN.len F_shared 2) (fCons (fVar 2) (fCons (fVar 4) (fNil)))) (fNil)))) (fNil))))) (fRet (fC (.bl false))) (fNext))
    (fSeq (fIte (fTst (fOp gNe (fCall (FN.len F__law_keys 1) (fCons (fCall (FN.len F_less 2) (fCons (fVar 2) (fCons (fCall (FN.len F_put_together 2) (fCons (fVar 3) (fCons (fVar 4) (fNil)))) (fNil)))) (fNil))) (fCall (FN.len F__law_keys 1) (fCons (fCall (FN.len F_less 2) (fCons (fCall (FN.len F_less 2) (fCons (fVar 2) (fCons (fVar 3) (fNil)))) (fCons (fVar 4) (fNil)))) (fNil))))) (fRet (fC (.bl false))) (fNext))
    (fSeq (fIte (fTst (fOp gNe (fCall (FN.len F__law_keys 1) (fCons (fCall (FN.len F_less 2) (fCons (fCall (FN.len F_less 2) (fCons (fVar 2) (fCons (fVar 3) (fNil)))) (fCons (fVar 3) (fNil)))) (fNil))) (fCall (FN.len F__law_keys 1) (fCons (fCall (FN.len F_less 2) (fCons (fVar 2) (fCons (fVar 3) (fNil)))) (fNil))))) (fRet (fC (.bl false))) (fNext))
    (fSeq (fIte (fOrT (fTst (fOp gNe (fCall (FN.len F__law_keys 1) (fCons (fCall (FN.len F_put_together 2) (fCons (fCall (FN.len F_less 2) (fCons (fVar 2) (fCons (fVar 3) (fNil)))) (fCons (fVar 6) (fNil)))) (fNil))) (fCall (FN.len F__law_keys 1) (fCons (fVar 2) (fNil))))) (fTst (fOp gNe (fCall (FN.len F__law_keys 1) (fCons (fCall (FN.len F_shared 2) (fCons (fCall (FN.len F_less 2) (fCons (fVar 2) (fCons (fVar 3) (fNil)))) (fCons (fVar 3) (fNil)))) (fNil))) (fLst false (fNil))))) (fRet (fC (.bl false))) (fNext))
    (fSeq (fIte (fOrT (fTst (fOp gNe (fCall (FN.len F__law_keys 1) (fCons (fCall (FN.len F_put_together 2) (fCons (fVar 2) (fCons (fVar 2) (fNil)))) (fNil))) (fCall (FN.len F__law_keys 1) (fCons (fVar 2) (fNil))))) (fTst (fOp gNe (fCall (FN.len F__law_keys 1) (fCons (fCall (FN.len F_less 2) (fCons (fVar 2) (fCons (fVar 2) (fNil)))) (fNil))) (fLst false (fNil))))) (fRet (fC (.bl false))) (fNext))
    (fSeq (fIte (fTst (fOp gNe (fCall (FN.len F__law_keys 1) (fCons (fCall (FN.len F_shared 2) (fCons (fVar 2) (fCons (fVar 2) (fNil)))) (fNil))) (fCall (FN.len F__law_keys 1) (fCons (fVar 2) (fNil))))) (fRet (fC (.bl false))) (fNext))
    (fSeq (fAsg (fOp gMinus (fCall (FN.len F__law_roll 2) (fCons (fVar 1) (fCons (fC (.int 27)) (fNil)))) (fC (.int 13))) (gtName 7))
    (fSeq (fAsg (fCall (FN.len F_split 2) (fCons (fVar 2) (fCons (fVar 7) (fNil)))) (gtTup 3 (gtCons (gtName 8) (gtCons (gtName 9) (gtCons (gtName 10) (gtNil))))))
    (fSeq (fIte (fTst (fOp gNe (fOp (gAdd false) (fOp (gAdd false) (fCall (FN.len F__law_keys 1) (fCons (fVar 8) (fNil))) (fOp (gMul false) (fLst false (fCons (fVar 7) (fNil))) (fCB gInt (fCons (fOp gIsNot (fVar 9) (fC .non)) (fNil))))) (fCall (FN.len F__law_keys 1) (fCons (fVar 10) (fNil)))) (fCall (FN.len F__law_keys 1) (fCons (fVar 2) (fNil))))) (fRet (fC (.bl false))) (fNext))
    (fIte (fTst (fOp gNe (fCall (FN.len F__law_keys 1) (fCons (fCall (FN.len F_joined 4) (fCons (fVar 8) (fCons (fVar 7) (fCons (fC (.str "x")) (fCons (fVar 10) (fNil)))))) (fNil))) (fCB (gSortA false) (fCons (fOp (gAdd false) (fCall (FN.len F__law_keys 1) (fCons (fVar 2) (fNil))) (fOp (gMul false) (fLst false (fCons (fVar 7) (fNil))) (fCB gInt (fCons (fOp gIs (fVar 9) (fC .non)) (fNil))))) (fNil))))) (fRet (fC (.bl false))) (fNext)))))))))))))))
def f_law (F__law_rounds F__law_tree F__law_row F_shared F_put_together F__law_keys F_less F__law_roll F_split F_joined : FN) : FS :=
  fSeq (fFor 100000 (fiSeq (fCall (FN.len F__law_rounds 2) (fCons (fVar 0) (fCons (fC (.int 3)) (fNil))))) (gtName 1) (f_law_b1 F__law_rounds F__law_tree F__law_row F_shared F_put_together F__law_keys F_less F__law_roll F_split F_joined))
    (fRet (fC (.bl true)))
def v_law_b1 (V__law_rounds V__law_tree V__law_row V_shared V_put_together V__law_keys V_less V__law_roll V_split V_joined : VN) : VS :=
  vSeq (vAsg (vLcE [11] (viRng (vCons (vC (.int 3)) (vNil))) (tName 11) (vYes) (vCallV V__law_tree (vCons (vCall V__law_row (wPl (pVar 1) (wTm (vC (.int 10)) (wTm (vC (.int 12)) (wNil))))) (vNil))) frzM) (tLst 3 (tCons (tName 2) (tCons (tName 3) (tCons (tName 4) (tNil))))))
    (vSeq (vPar 5 6 (vCons (vCallV V_put_together (vCons (vVar 2) (vCons (vVar 3) (vNil)))) (vCons (vCallV V_shared (vCons (vVar 2) (vCons (vVar 3) (vNil)))) (vNil))))
    (vSeq (vIte (vOrT (vTst (vOp gNe (vCallV V__law_keys (vCons (vVar 5) (vNil))) (vCallV V__law_keys (vCons (vCallV V_put_together (vCons (vVar 3) (vCons (vVar 2) (vNil)))) (vNil))))) (vTst (vOp gNe (vCallV V__law_keys (vCons (vVar 6) (vNil))) (vCallV V__law_keys (vCons (vCallV V_shared (vCons (vVar 3) (vCons (vVar 2) (vNil)))) (vNil)))))) (vRet (vC (.bl false))) (vNext))
    (vSeq (vIte (vTst (vOp gNe (vCallV V__law_keys (vCons (vCallV V_put_together (vCons (vVar 5) (vCons (vVar 4) (vNil)))) (vNil))) (vCallV V__law_keys (vCons (vCallV V_put_together (vCons (vVar 2) (vCons (vCallV V_put_together (vCons (vVar 3) (vCons (vVar 4) (vNil)))) (vNil)))) (vNil))))) (vRet (vC (.bl false))) (vNext))
    (vSeq (vIte (vTst (vOp gNe (vCallV V__law_keys (vCons (vCallV V_shared (vCons (vVar 6) (vCons (vVar 4) (vNil)))) (vNil))) (vCallV V__law_keys (vCons (vCallV V_shared (vCons (vVar 2) (vCons (vCallV V_shared (vCons (vVar 3) (vCons (vVar 4) (vNil)))) (vNil)))) (vNil))))) (vRet (vC (.bl false))) (vNext))
    (vSeq (vIte (vTst (vOp gNe (vCallV V__law_keys (vCons (vCallV V_shared (vCons (vVar 2) (vCons (vCallV V_put_together (vCons (vVar 3) (vCons (vVar 4) (vNil)))) (vNil)))) (vNil))) (vCallV V__law_keys (vCons (vCallV V_put_together (vCons (vVar 6) (vCons (vCallV V_shared (vCons (vVar 2) (vCons (vVar 4) (vNil)))) (vNil)))) (vNil))))) (vRet (vC (.bl false))) (vNext))
    (vSeq (vIte (vTst (vOp gNe (vCallV V__law_keys (vCons (vCallV V_less (vCons (vVar 2) (vCons (vCallV V_put_together (vCons (vVar 3) (vCons (vVar 4) (vNil)))) (vNil)))) (vNil))) (vCallV V__law_keys (vCons (vCallV V_less (vCons (vCallV V_less (vCons (vVar 2) (vCons (vVar 3) (vNil)))) (vCons (vVar 4) (vNil)))) (vNil))))) (vRet (vC (.bl false))) (vNext))
    (vSeq (vIte (vTst (vOp gNe (vCallV V__law_keys (vCons (vCallV V_less (vCons (vCallV V_less (vCons (vVar 2) (vCons (vVar 3) (vNil)))) (vCons (vVar 3) (vNil)))) (vNil))) (vCallV V__law_keys (vCons (vCallV V_less (vCons (vVar 2) (vCons (vVar 3) (vNil)))) (vNil))))) (vRet (vC (.bl false))) (vNext))
    (vSeq (vIte (vOrT (vTst (vOp gNe (vCallV V__law_keys (vCons (vCallV V_put_together (vCons (vCallV V_less (vCons (vVar 2) (vCons (vVar 3) (vNil)))) (vCons (vVar 6) (vNil)))) (vNil))) (vCallV V__law_keys (vCons (vVar 2) (vNil))))) (vTst (vOp gNe (vCallV V__law_keys (vCons (vCallV V_shared (vCons (vCallV V_less (vCons (vVar 2) (vCons (vVar 3) (vNil)))) (vCons (vVar 3) (vNil)))) (vNil))) (vLst (vNil))))) (vRet (vC (.bl false))) (vNext))
    (vSeq (vIte (vOrT (vTst (vOp gNe (vCallV V__law_keys (vCons (vCallV V_put_together (vCons (vVar 2) (vCons (vVar 2) (vNil)))) (vNil))) (vCallV V__law_keys (vCons (vVar 2) (vNil))))) (vTst (vOp gNe (vCallV V__law_keys (vCons (vCallV V_less (vCons (vVar 2) (vCons (vVar 2) (vNil)))) (vNil))) (vLst (vNil))))) (vRet (vC (.bl false))) (vNext))
    (vSeq (vIte (vTst (vOp gNe (vCallV V__law_keys (vCons (vCallV V_shared (vCons (vVar 2) (vCons (vVar 2) (vNil)))) (vNil))) (vCallV V__law_keys (vCons (vVar 2) (vNil))))) (vRet (vC (.bl false))) (vNext))
    (vSeq (vAsg (vOp gMinus (vCall V__law_roll (wPl (pVar 1) (wTm (vC (.int 27)) (wNil)))) (vC (.int 13))) (tName 7))
    (vSeq (vAsg (vCallV V_split (vCons (vVar 2) (vCons (vVar 7) (vNil)))) (tTup 3 (tCons (tName 8) (tCons (tName 9) (tCons (tName 10) (tNil))))))
    (vSeq (vIte (vTst (vOp gNe (vOp (gAdd false) (vOp (gAdd false) (vCallV V__law_keys (vCons (vVar 8) (vNil))) (vOp (gMul false) (vLst (vCons (vVar 7) (vNil))) (vCB gInt (vCons (vOp gIsNot (vVar 9) (vC .non)) (vNil))))) (vCallV V__law_keys (vCons (vVar 10) (vNil)))) (vCallV V__law_keys (vCons (vVar 2) (vNil))))) (vRet (vC (.bl false))) (vNext))
    (vIte (vTst (vOp gNe (vCallV V__law_keys (vCons (vCallV V_joined (vCons (vVar 8) (vCons (vVar 7) (vCons (vC (.str "x")) (vCons (vVar 10) (vNil)))))) (vNil))) (vCB (gSortA false) (vCons (vOp (gAdd false) (vCallV V__law_keys (vCons (vVar 2) (vNil))) (vOp (gMul false) (vLst (vCons (vVar 7) (vNil))) (vCB gInt (vCons (vOp gIs (vVar 9) (vC .non)) (vNil))))) (vNil))))) (vRet (vC (.bl false))) (vNext)))))))))))))))
def v_law (V__law_rounds V__law_tree V__law_row V_shared V_put_together V__law_keys V_less V__law_roll V_split V_joined : VN) : VS :=
  vSeq (vForO (vCallV V__law_rounds (vCons (vVar 0) (vCons (vC (.int 3)) (vNil)))) (tName 1) (v_law_b1 V__law_rounds V__law_tree V__law_row V_shared V_put_together V__law_keys V_less V__law_roll V_split V_joined))
    (vRet (vC (.bl true)))
set_option maxHeartbeats 4000000 in
theorem s_law {F__law_rounds F__law_tree F__law_row F_shared F_put_together F__law_keys F_less F__law_roll F_split F_joined : FN} {V__law_rounds V__law_tree V__law_row V_shared V_put_together V__law_keys V_less V__law_roll V_split V_joined : VN}
    (n__law_rounds : NSim true [] F__law_rounds V__law_rounds) (e__law_rounds : ∀ ms, ms.length ≠ 2 → V__law_rounds ms = .no)
    (n__law_tree : NSim true [] F__law_tree V__law_tree) (e__law_tree : ∀ ms, ms.length ≠ 1 → V__law_tree ms = .no)
    (n__law_row : NSim false [0] F__law_row V__law_row) (e__law_row : ∀ ms, ms.length ≠ 3 → V__law_row ms = .no)
    (n_shared : NSim true [] F_shared V_shared) (e_shared : ∀ ms, ms.length ≠ 2 → V_shared ms = .no)
    (n_put_together : NSim true [] F_put_together V_put_together) (e_put_together : ∀ ms, ms.length ≠ 2 → V_put_together ms = .no)
    (n__law_keys : NSim true [] F__law_keys V__law_keys) (e__law_keys : ∀ ms, ms.length ≠ 1 → V__law_keys ms = .no)
    (n_less : NSim true [] F_less V_less) (e_less : ∀ ms, ms.length ≠ 2 → V_less ms = .no)
    (n__law_roll : NSim false [0] F__law_roll V__law_roll) (e__law_roll : ∀ ms, ms.length ≠ 2 → V__law_roll ms = .no)
    (n_split : NSim true [] F_split V_split) (e_split : ∀ ms, ms.length ≠ 2 → V_split ms = .no)
    (n_joined : NSim true [] F_joined V_joined) (e_joined : ∀ ms, ms.length ≠ 4 → V_joined ms = .no) : SimS false [] (f_law F__law_rounds F__law_tree F__law_row F_shared F_put_together F__law_keys F_less F__law_roll F_split F_joined) (v_law V__law_rounds V__law_tree V__law_row V_shared V_put_together V__law_keys V_less V__law_roll V_split V_joined) :=
  ss_seq (ss_forO (se_callV n__law_rounds e__law_rounds (sa_cons (se_var 0) (sa_cons (se_c) (sa_nil)))) (sg_name (by decide)) (ss_seq (ss_asg (se_lcE (sf_rng1 (sav_cons (se_c) (sav_nil)) (len_cons len_nil)) (so_name 11) (st_yes) (se_callV n__law_tree e__law_tree (sa_cons (se_call n__law_row e__law_row (si_pl (sp_var 1) (si_tm (se_c) (si_tm (se_c) (si_nil)))) (pl_ok rfl)) (sa_nil)))) (sg_lst (sgs_cons (sg_name (by decide)) (sgs_cons (sg_name (by decide)) (sgs_cons (sg_name (by decide)) (sgs_nil))))))
    (ss_seq (ss_par (by decide) (by decide) (sa_cons (se_callV n_put_together e_put_together (sa_cons (se_var 2) (sa_cons (se_var 3) (sa_nil)))) (sa_cons (se_callV n_shared e_shared (sa_cons (se_var 2) (sa_cons (se_var 3) (sa_nil)))) (sa_nil))))
    (ss_seq (ss_ite (st_or (st_tst (se_op opv_ne (se_callV n__law_keys e__law_keys (sa_cons (se_var 5) (sa_nil))) (se_callV n__law_keys e__law_keys (sa_cons (se_callV n_put_together e_put_together (sa_cons (se_var 3) (sa_cons (se_var 2) (sa_nil)))) (sa_nil))))) (st_tst (se_op opv_ne (se_callV n__law_keys e__law_keys (sa_cons (se_var 6) (sa_nil))) (se_callV n__law_keys e__law_keys (sa_cons (se_callV n_shared e_shared (sa_cons (se_var 3) (sa_cons (se_var 2) (sa_nil)))) (sa_nil)))))) (ss_ret (se_c)) (ss_next))
    (ss_seq (ss_ite (st_tst (se_op opv_ne (se_callV n__law_keys e__law_keys (sa_cons (se_callV n_put_together e_put_together (sa_cons (se_var 5) (sa_cons (se_var 4) (sa_nil)))) (sa_nil))) (se_callV n__law_keys e__law_keys (sa_cons (se_callV n_put_together e_put_together (sa_cons (se_var 2) (sa_cons (se_callV n_put_together e_put_together (sa_cons (se_var 3) (sa_cons (se_var 4) (sa_nil)))) (sa_nil)))) (sa_nil))))) (ss_ret (se_c)) (ss_next))
    (ss_seq (ss_ite (st_tst (se_op opv_ne (se_callV n__law_keys e__law_keys (sa_cons (se_callV n_shared e_shared (sa_cons (se_var 6) (sa_cons (se_var 4) (sa_nil)))) (sa_nil))) (se_callV n__law_keys e__law_keys (sa_cons (se_callV n_shared e_shared (sa_cons (se_var 2) (sa_cons (se_callV n_shared e_shared (sa_cons (se_var 3) (sa_cons (se_var 4) (sa_nil)))) (sa_nil)))) (sa_nil))))) (ss_ret (se_c)) (ss_next))
    (ss_seq (ss_ite (st_tst (se_op opv_ne (se_callV n__law_keys e__law_keys (sa_cons (se_callV n_shared e_shared (sa_cons (se_var 2) (sa_cons (se_callV n_put_together e_put_together (sa_cons (se_var 3) (sa_cons (se_var 4) (sa_nil)))) (sa_nil)))) (sa_nil))) (se_callV n__law_keys e__law_keys (sa_cons (se_callV n_put_together e_put_together (sa_cons (se_var 6) (sa_cons (se_callV n_shared e_shared (sa_cons (se_var 2) (sa_cons (se_var 4) (sa_nil)))) (sa_nil)))) (sa_nil))))) (ss_ret (se_c)) (ss_next))
    (ss_seq (ss_ite (st_tst (se_op opv_ne (se_callV n__law_keys e__law_keys (sa_cons (se_callV n_less e_less (sa_cons (se_var 2) (sa_cons (se_callV n_put_together e_put_together (sa_cons (se_var 3) (sa_cons (se_var 4) (sa_nil)))) (sa_nil)))) (sa_nil))) (se_callV n__law_keys e__law_keys (sa_cons (se_callV n_less e_less (sa_cons (se_callV n_less e_less (sa_cons (se_var 2) (sa_cons (se_var 3) (sa_nil)))) (sa_cons (se_var 4) (sa_nil)))) (sa_nil))))) (ss_ret (se_c)) (ss_next))
    (ss_seq (ss_ite (st_tst (se_op opv_ne (se_callV n__law_keys e__law_keys (sa_cons (se_callV n_less e_less (sa_cons (se_callV n_less e_less (sa_cons (se_var 2) (sa_cons (se_var 3) (sa_nil)))) (sa_cons (se_var 3) (sa_nil)))) (sa_nil))) (se_callV n__law_keys e__law_keys (sa_cons (se_callV n_less e_less (sa_cons (se_var 2) (sa_cons (se_var 3) (sa_nil)))) (sa_nil))))) (ss_ret (se_c)) (ss_next))
    (ss_seq (ss_ite (st_or (st_tst (se_op opv_ne (se_callV n__law_keys e__law_keys (sa_cons (se_callV n_put_together e_put_together (sa_cons (se_callV n_less e_less (sa_cons (se_var 2) (sa_cons (se_var 3) (sa_nil)))) (sa_cons (se_var 6) (sa_nil)))) (sa_nil))) (se_callV n__law_keys e__law_keys (sa_cons (se_var 2) (sa_nil))))) (st_tst (se_op opv_ne (se_callV n__law_keys e__law_keys (sa_cons (se_callV n_shared e_shared (sa_cons (se_callV n_less e_less (sa_cons (se_var 2) (sa_cons (se_var 3) (sa_nil)))) (sa_cons (se_var 3) (sa_nil)))) (sa_nil))) (se_lst (sa_nil))))) (ss_ret (se_c)) (ss_next))
    (ss_seq (ss_ite (st_or (st_tst (se_op opv_ne (se_callV n__law_keys e__law_keys (sa_cons (se_callV n_put_together e_put_together (sa_cons (se_var 2) (sa_cons (se_var 2) (sa_nil)))) (sa_nil))) (se_callV n__law_keys e__law_keys (sa_cons (se_var 2) (sa_nil))))) (st_tst (se_op opv_ne (se_callV n__law_keys e__law_keys (sa_cons (se_callV n_less e_less (sa_cons (se_var 2) (sa_cons (se_var 2) (sa_nil)))) (sa_nil))) (se_lst (sa_nil))))) (ss_ret (se_c)) (ss_next))
    (ss_seq (ss_ite (st_tst (se_op opv_ne (se_callV n__law_keys e__law_keys (sa_cons (se_callV n_shared e_shared (sa_cons (se_var 2) (sa_cons (se_var 2) (sa_nil)))) (sa_nil))) (se_callV n__law_keys e__law_keys (sa_cons (se_var 2) (sa_nil))))) (ss_ret (se_c)) (ss_next))
    (ss_seq (ss_asg (se_op opv_sub (se_call n__law_roll e__law_roll (si_pl (sp_var 1) (si_tm (se_c) (si_nil))) (pl_ok rfl)) (se_c)) (sg_name (by decide)))
    (ss_seq (ss_asg (se_callV n_split e_split (sa_cons (se_var 2) (sa_cons (se_var 7) (sa_nil)))) (sg_tup (sgs_cons (sg_name (by decide)) (sgs_cons (sg_name (by decide)) (sgs_cons (sg_name (by decide)) (sgs_nil))))))
    (ss_seq (ss_ite (st_tst (se_op opv_ne (se_op opv_add (se_op opv_add (se_callV n__law_keys e__law_keys (sa_cons (se_var 8) (sa_nil))) (se_op opv_mul (se_lst (sa_cons (se_var 7) (sa_nil))) (se_cb cv_int (sav_cons (se_op opv_isnot (se_var 9) (se_c)) (sav_nil))))) (se_callV n__law_keys e__law_keys (sa_cons (se_var 10) (sa_nil)))) (se_callV n__law_keys e__law_keys (sa_cons (se_var 2) (sa_nil))))) (ss_ret (se_c)) (ss_next))
    (ss_ite (st_tst (se_op opv_ne (se_callV n__law_keys e__law_keys (sa_cons (se_callV n_joined e_joined (sa_cons (se_var 8) (sa_cons (se_var 7) (sa_cons (se_c) (sa_cons (se_var 10) (sa_nil)))))) (sa_nil))) (se_cb cv_sortA (sav_cons (se_op opv_add (se_callV n__law_keys e__law_keys (sa_cons (se_var 2) (sa_nil))) (se_op opv_mul (se_lst (sa_cons (se_var 7) (sa_nil))) (se_cb cv_int (sav_cons (se_op opv_is (se_var 9) (se_c)) (sav_nil))))) (sav_nil))))) (ss_ret (se_c)) (ss_next)))))))))))))))))
    (ss_ret (se_c))
def F_law (C_BadKey : Addr) : FN := runF ["script", "dice", "a", "b", "c", "either", "both", "key", "low", "told", "high", "k"] (f_law F__law_rounds (F__law_tree C_BadKey) F__law_row (F_shared 40) (F_put_together 40) F__law_keys (F_less 40) F__law_roll (F_split 40) (F_joined 40))
def V_law (C_BadKey : Addr) : VN := runV 1 12 (v_law V__law_rounds (V__law_tree C_BadKey) V__law_row (V_shared 40) (V_put_together 40) V__law_keys (V_less 40) V__law_roll (V_split 40) (V_joined 40))
theorem n_law (C_BadKey : Addr) : NSim false [] (F_law C_BadKey) (V_law C_BadKey) := nsim_fn (s_law n__law_rounds e__law_rounds (n__law_tree C_BadKey) (e__law_tree C_BadKey) n__law_row e__law_row (n_shared 40) (e_shared 40) (n_put_together 40) (e_put_together 40) n__law_keys e__law_keys (n_less 40) (e_less 40) n__law_roll e__law_roll (n_split 40) (e_split 40) (n_joined 40) (e_joined 40))
theorem e_law (C_BadKey : Addr) : ∀ ms, ms.length ≠ 1 → V_law C_BadKey ms = .no := run_len
structure Xf (K : PySem.W.Frag) (C_BadKey : Addr) : Prop where
  triv : True
end Law

namespace Avl
inductive Tr (α : Type) where
  | nil : Tr α
  | nd (l : Tr α) (k : Int) (w : α) (r : Tr α) : Tr α
variable {α : Type}
open Tr
def ht : Tr α → Nat
  | nil => 0
  | nd l _ _ r => 1 + max (ht l) (ht r)
def cnt : Tr α → Nat
  | nil => 0
  | nd l _ _ r => 1 + cnt l + cnt r
def ino : Tr α → List (Int × α)
  | nil => []
  | nd l k w r => ino l ++ (k, w) :: ino r
def Bal : Tr α → Prop
  | nil => True
  | nd l _ _ r => Bal l ∧ Bal r ∧ ht l ≤ ht r + 1 ∧ ht r ≤ ht l + 1
def leanT (l : Tr α) (k : Int) (w : α) (r : Tr α) : Tr α :=
  if ht r + 1 < ht l then match l with
    | nd a k2 w2 b => if ht b ≤ ht a then nd a k2 w2 (nd b k w r) else match b with
      | nd b0 bk bw b3 => nd (nd a k2 w2 b0) bk bw (nd b3 k w r)
      | nil => nil
    | nil => nil
  else if ht l + 1 < ht r then match r with
    | nd a k2 w2 b => if ht a ≤ ht b then nd (nd l k w a) k2 w2 b else match a with
      | nd a0 ak aw a3 => nd (nd l k w a0) ak aw (nd a3 k2 w2 b)
      | nil => nil
    | nil => nil
  else nd l k w r
theorem ino_lean (l : Tr α) (k : Int) (w : α) (r : Tr α) : ino (leanT l k w r) = ino l ++ (k, w) :: ino r := by
  unfold leanT
  split
  · cases l with
    | nil => simp [ht] at *
    | nd a k2 w2 b =>
      dsimp only
      split
      · simp [ino]
      · cases b with
        | nil => simp [ht] at *
        | nd b0 bk bw b3 => simp [ino]
  · split
    · cases r with
      | nil => simp [ht] at *
      | nd a k2 w2 b =>
        dsimp only
        split
        · simp [ino]
        · cases a with
          | nil => simp [ht] at *
          | nd a0 ak aw a3 => simp [ino]
    · rfl
theorem bal_lean {l r : Tr α} (k : Int) (w : α) (hl : Bal l) (hr : Bal r) (h1 : ht l ≤ ht r + 2) (h2 : ht r ≤ ht l + 2) :
    Bal (leanT l k w r) ∧ max (ht l) (ht r) ≤ ht (leanT l k w r) ∧ ht (leanT l k w r) ≤ 1 + max (ht l) (ht r) ∧ (ht l ≤ ht r + 1 → ht r ≤ ht l + 1 → ht (leanT l k w r) = 1 + max (ht l) (ht r)) := by
  unfold leanT
  split
  · cases l with
    | nil => simp [ht] at *
    | nd a k2 w2 b =>
      dsimp only
      simp only [Bal, ht] at *
      split
      · simp only [Bal, ht]
        refine ⟨⟨hl.1, ⟨hl.2.1, hr, ?_, ?_⟩, ?_, ?_⟩, ?_, ?_, ?_⟩ <;> omega
      · cases b with
        | nil => simp [ht] at *
        | nd b0 bk bw b3 =>
          simp only [Bal, ht] at *
          refine ⟨⟨⟨hl.1, hl.2.1.1, ?_, ?_⟩, ⟨hl.2.1.2.1, hr, ?_, ?_⟩, ?_, ?_⟩, ?_, ?_, ?_⟩ <;> omega
  · split
    · cases r with
      | nil => simp [ht] at *
      | nd a k2 w2 b =>
        dsimp only
        simp only [Bal, ht] at *
        split
        · simp only [Bal, ht]
          refine ⟨⟨⟨hl, hr.1, ?_, ?_⟩, hr.2.1, ?_, ?_⟩, ?_, ?_, ?_⟩ <;> omega
        · cases a with
          | nil => simp [ht] at *
          | nd a0 ak aw a3 =>
            simp only [Bal, ht] at *
            refine ⟨⟨⟨hl, hr.1.1, ?_, ?_⟩, ⟨hr.1.2.1, hr.2.1, ?_, ?_⟩, ?_, ?_⟩, ?_, ?_, ?_⟩ <;> omega
    · simp only [Bal, ht]
      exact ⟨⟨hl, hr, by omega, by omega⟩, by omega, by omega, fun _ _ => trivial⟩
/-- join -/
def joinT (l : Tr α) (k : Int) (w : α) (r : Tr α) : Tr α :=
  if ht r + 1 < ht l then match l with
    | nd a k2 w2 b => leanT a k2 w2 (joinT b k w r)
    | nil => nil
  else if ht l + 1 < ht r then match r with
    | nd a k2 w2 b => leanT (joinT l k w a) k2 w2 b
    | nil => nil
  else nd l k w r
termination_by sizeOf l + sizeOf r
theorem join_ok (k : Int) (w : α) : ∀ (n : Nat) (l r : Tr α), sizeOf l + sizeOf r < n → ino (joinT l k w r) = ino l ++ (k, w) :: ino r ∧ (Bal l → Bal r → Bal (joinT l k w r) ∧ max (ht l) (ht r) ≤ ht (joinT l k w r) ∧ ht (joinT l k w r) ≤ 1 + max (ht l) (ht r))
  | 0, l, r, h => by omega
  | n + 1, l, r, h => by
    unfold joinT
    split
    · cases l with
      | nil => simp [ht] at *
      | nd a k2 w2 b =>
        dsimp only
        obtain ⟨i1, i2⟩ := join_ok k w n b r (by simp at h; omega)
        refine ⟨by rw [ino_lean, i1]; simp [ino], fun hl hr => ?_⟩
        simp only [Bal, ht] at *
        obtain ⟨j1, j2, j3⟩ := i2 hl.2.1 hr
        obtain ⟨q1, q2, q3, q4⟩ := bal_lean k2 w2 hl.1 j1 (by omega) (by omega)
        refine ⟨q1, ?_, ?_⟩
        · by_cases c : ht (joinT b k w r) ≤ ht a + 1 ∧ ht a ≤ ht (joinT b k w r) + 1
          · have := q4 c.2 c.1; omega
          · omega
        · by_cases c : ht (joinT b k w r) ≤ ht a + 1 ∧ ht a ≤ ht (joinT b k w r) + 1
          · have := q4 c.2 c.1; omega
          · omega
    · split
      · cases r with
        | nil => simp [ht] at *
        | nd a k2 w2 b =>
          dsimp only
          obtain ⟨i1, i2⟩ := join_ok k w n l a (by simp at h; omega)
          refine ⟨by rw [ino_lean, i1]; simp [ino], fun hl hr => ?_⟩
          simp only [Bal, ht] at *
          obtain ⟨j1, j2, j3⟩ := i2 hl hr.1
          obtain ⟨q1, q2, q3, q4⟩ := bal_lean k2 w2 j1 hr.2.1 (by omega) (by omega)
          refine ⟨q1, ?_, ?_⟩
          · by_cases c : ht (joinT l k w a) ≤ ht b + 1 ∧ ht b ≤ ht (joinT l k w a) + 1
            · have := q4 c.1 c.2; omega
            · omega
          · by_cases c : ht (joinT l k w a) ≤ ht b + 1 ∧ ht b ≤ ht (joinT l k w a) + 1
            · have := q4 c.1 c.2; omega
            · omega
      · refine ⟨rfl, fun hl hr => ?_⟩
        simp only [Bal, ht]
        refine ⟨⟨hl, hr, ?_, ?_⟩, ?_, ?_⟩ <;> omega
theorem ino_join (l : Tr α) (k : Int) (w : α) (r : Tr α) : ino (joinT l k w r) = ino l ++ (k, w) :: ino r := (join_ok k w _ l r (Nat.lt_succ_self _)).1
theorem bal_join {l r : Tr α} (k : Int) (w : α) (hl : Bal l) (hr : Bal r) : Bal (joinT l k w r) := ((join_ok k w _ l r (Nat.lt_succ_self _)).2 hl hr).1
def putT (t : Tr α) (k : Int) (w : α) : Tr α := match t with
  | nil => nd nil k w nil
  | nd l h v r => if k = h then nd l k w r else if k < h then leanT (putT l k w) h v r else leanT l h v (putT r k w)
theorem bal_put (k : Int) (w : α) : ∀ t : Tr α, Bal t → Bal (putT t k w) ∧ ht t ≤ ht (putT t k w) ∧ ht (putT t k w) ≤ ht t + 1
  | nil, _ => by simp [putT, Bal, ht]
  | nd l h v r, hb => by
    obtain ⟨h1, h2, h3, h4⟩ := hb
    obtain ⟨a1, a2, a3⟩ := bal_put k w l h1
    obtain ⟨b1, b2, b3⟩ := bal_put k w r h2
    unfold putT
    split
    · simp only [Bal, ht]; exact ⟨⟨h1, h2, h3, h4⟩, by omega, by omega⟩
    · split
      · obtain ⟨q1, q2, q3, q4⟩ := bal_lean h v a1 h2 (by omega) (by omega)
        simp only [ht]
        by_cases c : ht (putT l k w) ≤ ht r + 1
        · have := q4 c (by omega)
          exact ⟨q1, by omega, by omega⟩
        · exact ⟨q1, by omega, by omega⟩
      · obtain ⟨q1, q2, q3, q4⟩ := bal_lean h v h1 b1 (by omega) (by omega)
        simp only [ht]
        by_cases c : ht (putT r k w) ≤ ht l + 1
        · have := q4 (by omega) c
          exact ⟨q1, by omega, by omega⟩
        · exact ⟨q1, by omega, by omega⟩
/-- rising rows -/
abbrev Up (l : List (Int × α)) : Prop := l.Pairwise fun p q => p.1 < q.1
theorem up_mid {A B : List (Int × α)} {p : Int × α} : Up (A ++ p :: B) ↔ Up A ∧ Up B ∧ (∀ q ∈ A, q.1 < p.1) ∧ (∀ q ∈ B, p.1 < q.1) := by
  constructor
  · intro h
    obtain ⟨h1, h2, h3⟩ := List.pairwise_append.mp h
    obtain ⟨h4, h5⟩ := List.pairwise_cons.mp h2
    exact ⟨h1, h5, fun q hq => h3 q hq p (by simp), h4⟩
  · rintro ⟨h1, h2, h3, h4⟩
    refine List.pairwise_append.mpr ⟨h1, List.pairwise_cons.mpr ⟨h4, h2⟩, fun a ha b hb => ?_⟩
    rcases List.mem_cons.mp hb with rfl | hb
    · exact h3 a ha
    · exact Int.lt_trans (h3 a ha) (h4 b hb)
theorem up_app {A B : List (Int × α)} : Up (A ++ B) ↔ Up A ∧ Up B ∧ ∀ q ∈ A, ∀ p ∈ B, q.1 < p.1 := List.pairwise_append
/-- a row with one put in -/
def insL (k : Int) (w : α) : List (Int × α) → List (Int × α)
  | [] => [(k, w)]
  | p :: ps => if k < p.1 then (k, w) :: p :: ps else if k = p.1 then (k, w) :: ps else p :: insL k w ps
theorem insL_mid_lt {k : Int} {w : α} {h : Int} {v : α} {B : List (Int × α)} (hk : k < h) : ∀ A : List (Int × α), insL k w (A ++ (h, v) :: B) = insL k w A ++ (h, v) :: B
  | [] => by simp [insL, hk]
  | a :: A => by
    simp only [List.cons_append, insL, insL_mid_lt hk A]
    split
    · rfl
    · split <;> rfl
theorem insL_mid_gt {k : Int} {w : α} {h : Int} {v : α} {B : List (Int × α)} (hk : h < k) : ∀ A : List (Int × α), (∀ q ∈ A, q.1 < h) → insL k w (A ++ (h, v) :: B) = A ++ (h, v) :: insL k w B
  | [], _ => by simp only [List.nil_append, insL]; rw [if_neg (by omega), if_neg (by omega)]
  | a :: A, hA => by
    have := hA a (by simp)
    simp only [List.cons_append, insL]
    rw [if_neg (by omega), if_neg (by omega), insL_mid_gt hk A fun q hq => hA q (by simp [hq])]
theorem insL_mid_eq {k : Int} {w : α} {v : α} {B : List (Int × α)} : ∀ A : List (Int × α), (∀ q ∈ A, q.1 < k) → insL k w (A ++ (k, v) :: B) = A ++ (k, w) :: B
  | [], _ => by simp [insL]
  | a :: A, hA => by
    have := hA a (by simp)
    simp only [List.cons_append, insL]
    rw [if_neg (by omega), if_neg (by omega), insL_mid_eq A fun q hq => hA q (by simp [hq])]
theorem ino_put (k : Int) (w : α) : ∀ t : Tr α, Up (ino t) → ino (putT t k w) = insL k w (ino t)
  | nil, _ => rfl
  | nd l h v r, hu => by
    obtain ⟨h1, h2, h3, h4⟩ := up_mid.mp hu
    unfold putT
    simp only [ino]
    split
    · rename_i e; subst e
      rw [insL_mid_eq _ h3]; rfl
    · split
      · rw [ino_lean, ino_put k w l h1, insL_mid_lt (by assumption)]
      · rw [ino_lean, ino_put k w r h2, insL_mid_gt (by omega) _ h3]
theorem mem_insL {k : Int} {w : α} {p : Int × α} : ∀ {l : List (Int × α)}, Up l → (p ∈ insL k w l ↔ p = (k, w) ∨ (p ∈ l ∧ p.1 ≠ k))
  | [], _ => by simp [insL]
  | q :: l, h => by
    obtain ⟨h1, h2⟩ := List.pairwise_cons.mp h
    have ih := mem_insL (k := k) (w := w) (p := p) h2
    simp only [insL]
    split
    · rename_i c
      simp only [List.mem_cons]
      constructor
      · rintro (e | e | e)
        · exact .inl e
        · subst e; exact .inr ⟨.inl rfl, by omega⟩
        · exact .inr ⟨.inr e, by have := h1 p e; omega⟩
      · rintro (e | ⟨e, _⟩)
        · exact .inl e
        · exact .inr e
    · split
      · rename_i c
        simp only [List.mem_cons]
        constructor
        · rintro (e | e)
          · exact .inl e
          · exact .inr ⟨.inr e, by have := h1 p e; omega⟩
        · rintro (e | ⟨e | e, n⟩)
          · exact .inl e
          · subst e; exact absurd c.symm n
          · exact .inr e
      · simp only [List.mem_cons, ih]
        constructor
        · rintro (e | e | ⟨e, n⟩)
          · subst e; exact .inr ⟨.inl rfl, by omega⟩
          · exact .inl e
          · exact .inr ⟨.inr e, n⟩
        · rintro (e | ⟨e | e, n⟩)
          · exact .inr (.inl e)
          · exact .inl e
          · exact .inr (.inr ⟨e, n⟩)
theorem up_insL {k : Int} {w : α} : ∀ {l : List (Int × α)}, Up l → Up (insL k w l)
  | [], _ => List.pairwise_singleton _ _
  | q :: l, h => by
    obtain ⟨h1, h2⟩ := List.pairwise_cons.mp h
    simp only [insL]
    split
    · refine List.pairwise_cons.mpr ⟨fun p hp => ?_, h⟩
      rcases List.mem_cons.mp hp with rfl | hp
      · assumption
      · have := h1 p hp; show k < p.1; omega
    · split
      · rename_i c
        exact List.pairwise_cons.mpr ⟨fun p hp => by have := h1 p hp; show k < p.1; omega, h2⟩
      · refine List.pairwise_cons.mpr ⟨fun p hp => ?_, up_insL h2⟩
        rcases (mem_insL h2).mp hp with rfl | ⟨hp, _⟩
        · show q.1 < k; omega
        · exact h1 p hp
/-- without the least -/
def wlT : Tr α → Tr α
  | nil => nil
  | nd nil _ _ r => r
  | nd (nd a b c d) k w r => leanT (wlT (nd a b c d)) k w r
theorem wl_ok : ∀ t : Tr α, (∃ p, ino t = p :: ino (wlT t)) ∨ t = nil
  | nil => .inr rfl
  | nd nil k w r => .inl ⟨(k, w), by simp [wlT, ino]⟩
  | nd (nd a b c d) k w r => by
    rcases wl_ok (nd a b c d) with ⟨p, h⟩ | h
    · refine .inl ⟨p, ?_⟩
      rw [wlT, ino_lean]
      conv => lhs; rw [ino, h]
      rfl
    · cases h
theorem bal_wl : ∀ t : Tr α, Bal t → Bal (wlT t) ∧ ht (wlT t) ≤ ht t ∧ ht t ≤ ht (wlT t) + 1
  | nil, _ => by simp [wlT, Bal, ht]
  | nd nil k w r, h => by
    obtain ⟨h1, h2, h3, h4⟩ := h
    simp only [wlT, ht] at *
    exact ⟨h2, by omega, by omega⟩
  | nd (nd a b c d) k w r, h => by
    obtain ⟨h1, h2, h3, h4⟩ := h
    obtain ⟨a1, a2, a3⟩ := bal_wl (nd a b c d) h1
    rw [wlT]
    obtain ⟨q1, q2, q3, q4⟩ := bal_lean k w a1 h2 (by omega) (by omega)
    rw [show ht (nd (nd a b c d) k w r) = 1 + max (ht (nd a b c d)) (ht r) from rfl]
    by_cases z : ht r ≤ ht (wlT (nd a b c d)) + 1
    · have := q4 (by omega) z
      exact ⟨q1, by omega, by omega⟩
    · exact ⟨q1, by omega, by omega⟩
/-- one behind another -/
def headL : List (Int × α) → Option (Int × α)
  | [] => none
  | p :: _ => some p
def behT (l r : Tr α) : Tr α := match headL (ino r) with
  | none => l
  | some p => joinT l p.1 p.2 (wlT r)
theorem ino_beh (l r : Tr α) : ino (behT l r) = ino l ++ ino r := by
  unfold behT
  rcases wl_ok r with ⟨p, h⟩ | h
  · rw [h, headL]; dsimp only; rw [ino_join]
  · subst h; simp [ino, headL]
theorem bal_beh {l r : Tr α} (hl : Bal l) (hr : Bal r) : Bal (behT l r) := by
  unfold behT
  split
  · exact hl
  · exact bal_join _ _ hl (bal_wl r hr).1
/-- split -/
def splT (t : Tr α) (k : Int) : Tr α × Option α × Tr α := match t with
  | nil => (nil, none, nil)
  | nd l h v r => if k = h then (l, some v, r) else if k < h then
      ((splT l k).1, (splT l k).2.1, joinT (splT l k).2.2 h v r) else (joinT l h v (splT r k).1, (splT r k).2.1, (splT r k).2.2)
theorem bal_spl (k : Int) : ∀ t : Tr α, Bal t → Bal (splT t k).1 ∧ Bal (splT t k).2.2
  | nil, h => ⟨h, h⟩
  | nd l h v r, hb => by
    obtain ⟨h1, h2, h3, h4⟩ := hb
    obtain ⟨a1, a2⟩ := bal_spl k l h1
    obtain ⟨b1, b2⟩ := bal_spl k r h2
    unfold splT
    split
    · exact ⟨h1, h2⟩
    · split
      · exact ⟨a1, bal_join _ _ a2 h2⟩
      · exact ⟨bal_join _ _ h1 b1, b2⟩
theorem fil_all {l : List (Int × α)} {f : Int × α → Bool} (h : ∀ p ∈ l, f p = true) : l.filter f = l := List.filter_eq_self.mpr h
theorem fil_none {l : List (Int × α)} {f : Int × α → Bool} (h : ∀ p ∈ l, f p = false) : l.filter f = [] := List.filter_eq_nil_iff.mpr fun p hp => by simp [h p hp]
theorem ino_spl (k : Int) : ∀ t : Tr α, Up (ino t) → ino (splT t k).1 = (ino t).filter (fun p => decide (p.1 < k)) ∧ ino (splT t k).2.2 = (ino t).filter (fun p => decide (k < p.1)) ∧
    ((∀ w, (splT t k).2.1 = some w ↔ (k, w) ∈ ino t)) ∧ ((splT t k).2.1 = none ↔ ∀ p ∈ ino t, p.1 ≠ k)
  | nil, _ => by simp [splT, ino]
  | nd l h v r, hu => by
    obtain ⟨h1, h2, h3, h4⟩ := up_mid.mp hu
    obtain ⟨a1, a2, a3, a4⟩ := ino_spl k l h1
    obtain ⟨b1, b2, b3, b4⟩ := ino_spl k r h2
    unfold splT
    simp only [ino, List.filter_append, List.filter_cons]
    split
    · rename_i e; subst e
      refine ⟨?_, ?_, fun w => ?_, ?_⟩
      · rw [fil_all (l := ino l) fun p hp => by simpa using h3 p hp, fil_none (l := ino r) fun p hp => by have := h4 p hp; simp at this ⊢; omega]
        simp
      · rw [fil_all (l := ino r) fun p hp => by simpa using h4 p hp, fil_none (l := ino l) fun p hp => by have := h3 p hp; simp at this ⊢; omega]
        simp
      · simp only [Option.some.injEq, List.mem_append, List.mem_cons]
        constructor
        · rintro rfl; exact .inr (.inl rfl)
        · rintro (e | e | e)
          · have := h3 _ e; simp at this
          · cases e; rfl
          · have := h4 _ e; simp at this
      · simp only [reduceCtorEq, false_iff]
        exact fun q => q (k, v) (by simp) rfl
    · rename_i ne
      split
      · rename_i lt
        refine ⟨?_, ?_, fun w => ?_, ?_⟩
        · rw [a1, fil_none (l := ino r) fun p hp => by have := h4 p hp; simp at this ⊢; omega, if_neg (by simp; omega)]
          simp
        · rw [ino_join, a2, fil_all (l := ino r) fun p hp => by have := h4 p hp; simp at this ⊢; omega, if_pos (by simpa using lt)]
        · rw [a3]
          simp only [List.mem_append, List.mem_cons]
          constructor
          · exact .inl
          · rintro (e | e | e)
            · exact e
            · cases e; exact absurd rfl ne
            · have := h4 _ e; simp at this; omega
        · rw [a4]
          simp only [List.mem_append, List.mem_cons]
          constructor
          · rintro q p (e | e | e)
            · exact q p e
            · subst e; exact fun z => ne z.symm
            · have := h4 _ e; simp at this; omega
          · exact fun q p hp => q p (.inl hp)
      · rename_i nlt
        refine ⟨?_, ?_, fun w => ?_, ?_⟩
        · rw [ino_join, b1, fil_all (l := ino l) fun p hp => by have := h3 p hp; simp at this ⊢; omega, if_pos (by simp; omega)]
        · rw [b2, fil_none (l := ino l) fun p hp => by have := h3 p hp; simp at this ⊢; omega, if_neg (by simp; omega)]
          simp
        · rw [b3]
          simp only [List.mem_append, List.mem_cons]
          constructor
          · exact fun q => .inr (.inr q)
          · rintro (e | e | e)
            · have := h3 _ e; simp at this; omega
            · cases e; exact absurd rfl ne
            · exact e
        · rw [b4]
          simp only [List.mem_append, List.mem_cons]
          constructor
          · rintro q p (e | e | e)
            · have := h3 _ e; simp at this; omega
            · subst e; exact fun z => ne z.symm
            · exact q p e
          · exact fun q p hp => q p (.inr (.inr hp))
/-- sound -/
def Snd (t : Tr α) : Prop := Bal t ∧ Up (ino t)
theorem snd_put {t : Tr α} (h : Snd t) (k : Int) (w : α) : Snd (putT t k w) := ⟨(bal_put k w t h.1).1, by rw [ino_put k w t h.2]; exact up_insL h.2⟩
theorem mem_put {t : Tr α} (h : Snd t) (k : Int) (w : α) (p : Int × α) : p ∈ ino (putT t k w) ↔ p = (k, w) ∨ (p ∈ ino t ∧ p.1 ≠ k) := by rw [ino_put k w t h.2]; exact mem_insL h.2
theorem snd_spl {t : Tr α} (h : Snd t) (k : Int) : Snd (splT t k).1 ∧ Snd (splT t k).2.2 := by
  obtain ⟨h1, h2⟩ := bal_spl k t h.1
  obtain ⟨e1, e2, _⟩ := ino_spl k t h.2
  exact ⟨⟨h1, by rw [e1]; exact h.2.filter _⟩, ⟨h2, by rw [e2]; exact h.2.filter _⟩⟩
theorem mem_lo {t : Tr α} (h : Snd t) (k : Int) (p : Int × α) : p ∈ ino (splT t k).1 ↔ p ∈ ino t ∧ p.1 < k := by
  rw [(ino_spl k t h.2).1, List.mem_filter]; simp
theorem mem_hi {t : Tr α} (h : Snd t) (k : Int) (p : Int × α) : p ∈ ino (splT t k).2.2 ↔ p ∈ ino t ∧ k < p.1 := by
  rw [(ino_spl k t h.2).2.1, List.mem_filter]; simp
theorem snd_sides {l r : Tr α} {k : Int} {w : α} (h : Snd (nd l k w r)) : Snd l ∧ Snd r ∧ (∀ q ∈ ino l, q.1 < k) ∧ (∀ q ∈ ino r, k < q.1) := by
  obtain ⟨⟨b1, b2, _⟩, u⟩ := h
  obtain ⟨h1, h2, h3, h4⟩ := up_mid.mp u
  exact ⟨⟨b1, h1⟩, ⟨b2, h2⟩, h3, h4⟩
theorem snd_join {l r : Tr α} {k : Int} {w : α} (hl : Snd l) (hr : Snd r) (h3 : ∀ q ∈ ino l, q.1 < k) (h4 : ∀ q ∈ ino r, k < q.1) : Snd (joinT l k w r) :=
  ⟨bal_join _ _ hl.1 hr.1, by rw [ino_join]; exact up_mid.mpr ⟨hl.2, hr.2, h3, h4⟩⟩
theorem snd_beh {l r : Tr α} (hl : Snd l) (hr : Snd r) (h : ∀ q ∈ ino l, ∀ p ∈ ino r, q.1 < p.1) : Snd (behT l r) :=
  ⟨bal_beh hl.1 hr.1, by rw [ino_beh]; exact up_app.mpr ⟨hl.2, hr.2, h⟩⟩
/-- has a key -/
def Has (t : Tr α) (x : Int) : Prop := ∃ p ∈ ino t, p.1 = x
theorem up_key {l : List (Int × α)} (h : Up l) {p q : Int × α} (hp : p ∈ l) (hq : q ∈ l) (e : p.1 = q.1) : p = q := by
  induction l with
  | nil => cases hp
  | cons a l ih =>
    obtain ⟨h1, h2⟩ := List.pairwise_cons.mp h
    rcases List.mem_cons.mp hp with e1 | hp'
    · rcases List.mem_cons.mp hq with e2 | hq'
      · rw [e1, e2]
      · have := h1 q hq'; rw [e1] at e; omega
    · rcases List.mem_cons.mp hq with e2 | hq'
      · have := h1 p hp'; rw [e2] at e; omega
      · exact ih h2 hp' hq'
def uniT : Tr α → Tr α → Tr α
  | nil, o => o
  | nd l k w r, o => joinT (uniT l (splT o k).1) k w (uniT r (splT o k).2.2)
theorem uni_ok : ∀ (t o : Tr α), Snd t → Snd o → Snd (uniT t o) ∧ ∀ p, p ∈ ino (uniT t o) ↔ p ∈ ino t ∨ (p ∈ ino o ∧ ¬ Has t p.1)
  | nil, o, ht, ho => ⟨ho, fun p => by simp [uniT, ino, Has]⟩
  | nd l k w r, o, ht, ho => by
    obtain ⟨s1, s2, s3, s4⟩ := snd_sides ht
    obtain ⟨o1, o2⟩ := snd_spl ho k
    obtain ⟨i1, j1⟩ := uni_ok l (splT o k).1 s1 o1
    obtain ⟨i2, j2⟩ := uni_ok r (splT o k).2.2 s2 o2
    have m1 := mem_lo ho k
    have m2 := mem_hi ho k
    simp only [uniT]
    refine ⟨snd_join i1 i2 (fun q hq => ?_) (fun q hq => ?_), fun p => ?_⟩
    · rcases (j1 q).mp hq with e | ⟨e, _⟩
      · exact s3 q e
      · exact ((m1 q).mp e).2
    · rcases (j2 q).mp hq with e | ⟨e, _⟩
      · exact s4 q e
      · exact ((m2 q).mp e).2
    · rw [ino_join]
      simp only [ino, List.mem_append, List.mem_cons, j1, j2, m1, m2, Has]
      constructor
      · rintro ((e | ⟨⟨e, lt⟩, n⟩) | e | e | ⟨⟨e, lt⟩, n⟩)
        · exact .inl (.inl e)
        · refine .inr ⟨e, ?_⟩
          rintro ⟨q, hq | hq | hq, eq⟩
          · exact n ⟨q, hq, eq⟩
          · subst hq; simp at eq; omega
          · have := s4 q hq; omega
        · exact .inl (.inr (.inl e))
        · exact .inl (.inr (.inr e))
        · refine .inr ⟨e, ?_⟩
          rintro ⟨q, hq | hq | hq, eq⟩
          · have := s3 q hq; omega
          · subst hq; simp at eq; omega
          · exact n ⟨q, hq, eq⟩
      · rintro ((e | e | e) | ⟨e, n⟩)
        · exact .inl (.inl e)
        · exact .inr (.inl e)
        · exact .inr (.inr (.inl e))
        · rcases Int.lt_trichotomy p.1 k with c | c | c
          · exact .inl (.inr ⟨⟨e, c⟩, fun ⟨q, hq, eq⟩ => n ⟨q, .inl hq, eq⟩⟩)
          · exact absurd ⟨(k, w), .inr (.inl rfl), c.symm⟩ n
          · exact .inr (.inr (.inr ⟨⟨e, c⟩, fun ⟨q, hq, eq⟩ => n ⟨q, .inr (.inr hq), eq⟩⟩))
def intT : Tr α → Tr α → Tr α
  | nil, _ => nil
  | nd l k w r, o => match o with
    | nil => nil
    | nd a b c d => match (splT (nd a b c d) k).2.1 with
      | none => behT (intT l (splT (nd a b c d) k).1) (intT r (splT (nd a b c d) k).2.2)
      | some _ => joinT (intT l (splT (nd a b c d) k).1) k w (intT r (splT (nd a b c d) k).2.2)
theorem int_ok : ∀ (t o : Tr α), Snd t → Snd o → Snd (intT t o) ∧ ∀ p, p ∈ ino (intT t o) ↔ p ∈ ino t ∧ Has o p.1
  | nil, o, ht, ho => ⟨ht, fun p => by simp [intT, ino]⟩
  | nd l k w r, nil, ht, ho => ⟨ho, fun p => by simp [intT, ino, Has]⟩
  | nd l k w r, nd a b c d, ht, ho => by
    obtain ⟨s1, s2, s3, s4⟩ := snd_sides ht
    obtain ⟨o1, o2⟩ := snd_spl ho k
    have m1 := mem_lo ho k
    have m2 := mem_hi ho k
    obtain ⟨_, _, g3, g4⟩ := ino_spl k _ ho.2
    simp only [intT]
    generalize nd a b c d = o at *
    obtain ⟨i1, j1⟩ := int_ok l (splT o k).1 s1 o1
    obtain ⟨i2, j2⟩ := int_ok r (splT o k).2.2 s2 o2
    have lo : ∀ p, p ∈ ino l → (Has (splT o k).1 p.1 ↔ Has o p.1) := fun p hp => by
      have c := s3 p hp
      constructor
      · rintro ⟨q, hq, e⟩; exact ⟨q, ((m1 q).mp hq).1, e⟩
      · rintro ⟨q, hq, e⟩; exact ⟨q, (m1 q).mpr ⟨hq, by omega⟩, e⟩
    have hi : ∀ p, p ∈ ino r → (Has (splT o k).2.2 p.1 ↔ Has o p.1) := fun p hp => by
      have c := s4 p hp
      constructor
      · rintro ⟨q, hq, e⟩; exact ⟨q, ((m2 q).mp hq).1, e⟩
      · rintro ⟨q, hq, e⟩; exact ⟨q, (m2 q).mpr ⟨hq, by omega⟩, e⟩
    cases hb : (splT o k).2.1 with
    | none =>
      have hn := g4.mp hb
      refine ⟨snd_beh i1 i2 fun q hq p hp => ?_, fun p => ?_⟩
      · have c1 := s3 q ((j1 q).mp hq).1
        have c2 := s4 p ((j2 p).mp hp).1
        omega
      · simp only [ino_beh, ino, List.mem_append, List.mem_cons, j1, j2]
        constructor
        · rintro (⟨e, h⟩ | ⟨e, h⟩)
          · exact ⟨.inl e, (lo p e).mp h⟩
          · exact ⟨.inr (.inr e), (hi p e).mp h⟩
        · rintro ⟨e | e | e, h⟩
          · exact .inl ⟨e, (lo p e).mpr h⟩
          · subst e
            obtain ⟨q, hq, eq⟩ := h
            exact absurd eq (hn q hq)
          · exact .inr ⟨e, (hi p e).mpr h⟩
    | some v =>
      have hs := (g3 v).mp hb
      refine ⟨snd_join i1 i2 (fun q hq => s3 q ((j1 q).mp hq).1) (fun q hq => s4 q ((j2 q).mp hq).1), fun p => ?_⟩
      simp only [ino_join, ino, List.mem_append, List.mem_cons, j1, j2]
      constructor
      · rintro (⟨e, h⟩ | e | ⟨e, h⟩)
        · exact ⟨.inl e, (lo p e).mp h⟩
        · subst e; exact ⟨.inr (.inl rfl), _, hs, rfl⟩
        · exact ⟨.inr (.inr e), (hi p e).mp h⟩
      · rintro ⟨e | e | e, h⟩
        · exact .inl ⟨e, (lo p e).mpr h⟩
        · exact .inr (.inl e)
        · exact .inr (.inr ⟨e, (hi p e).mpr h⟩)
def difT : Tr α → Tr α → Tr α
  | t, nil => t
  | t, nd a b c d => match t with
    | nil => nil
    | nd l k w r => behT (difT (splT (nd l k w r) b).1 a) (difT (splT (nd l k w r) b).2.2 d)
theorem dif_ok : ∀ (o t : Tr α), Snd t → Snd o → Snd (difT t o) ∧ ∀ p, p ∈ ino (difT t o) ↔ p ∈ ino t ∧ ¬ Has o p.1
  | nil, t, ht, ho => by
    have e : difT t nil = t := by cases t <;> rfl
    rw [e]
    exact ⟨ht, fun p => by simp [Has, ino]⟩
  | nd a b c d, nil, ht, ho => ⟨ht, fun p => by simp [difT, ino]⟩
  | nd a b c d, nd l k w r, ht, ho => by
    obtain ⟨s1, s2, s3, s4⟩ := snd_sides ho
    obtain ⟨o1, o2⟩ := snd_spl ht b
    have m1 := mem_lo ht b
    have m2 := mem_hi ht b
    simp only [difT]
    generalize nd l k w r = t at *
    obtain ⟨i1, j1⟩ := dif_ok a (splT t b).1 o1 s1
    obtain ⟨i2, j2⟩ := dif_ok d (splT t b).2.2 o2 s2
    refine ⟨snd_beh i1 i2 fun q hq p hp => ?_, fun p => ?_⟩
    · have c1 := ((m1 q).mp ((j1 q).mp hq).1).2
      have c2 := ((m2 p).mp ((j2 p).mp hp).1).2
      omega
    · simp only [ino_beh, List.mem_append, j1, j2, m1, m2]
      constructor
      · rintro (⟨⟨e, lt⟩, n⟩ | ⟨⟨e, lt⟩, n⟩)
        · refine ⟨e, fun ⟨q, hq, eq⟩ => ?_⟩
          simp only [ino, List.mem_append, List.mem_cons] at hq
          rcases hq with hq | hq | hq
          · exact n ⟨q, hq, eq⟩
          · subst hq; simp at eq; omega
          · have := s4 q hq; omega
        · refine ⟨e, fun ⟨q, hq, eq⟩ => ?_⟩
          simp only [ino, List.mem_append, List.mem_cons] at hq
          rcases hq with hq | hq | hq
          · have := s3 q hq; omega
          · subst hq; simp at eq; omega
          · exact n ⟨q, hq, eq⟩
      · rintro ⟨e, n⟩
        rcases Int.lt_trichotomy p.1 b with z | z | z
        · exact .inl ⟨⟨e, z⟩, fun ⟨q, hq, eq⟩ => n ⟨q, by simp [ino, hq], eq⟩⟩
        · exact absurd ⟨(b, c), by simp [ino], z.symm⟩ n
        · exact .inr ⟨⟨e, z⟩, fun ⟨q, hq, eq⟩ => n ⟨q, by simp [ino, hq], eq⟩⟩
/-- two rising rows with the same members are one -/
theorem up_uniq : ∀ {l m : List Int}, l.Pairwise (· < ·) → m.Pairwise (· < ·) → (∀ x, x ∈ l ↔ x ∈ m) → l = m
  | [], [], _, _, _ => rfl
  | [], y :: m, _, _, h => by have := (h y).mpr (by simp); cases this
  | x :: l, [], _, _, h => by have := (h x).mp (by simp); cases this
  | x :: l, y :: m, h1, h2, h => by
    obtain ⟨a1, a2⟩ := List.pairwise_cons.mp h1
    obtain ⟨b1, b2⟩ := List.pairwise_cons.mp h2
    have e : x = y := by
      rcases List.mem_cons.mp ((h x).mp (by simp)) with e | e
      · exact e
      · rcases List.mem_cons.mp ((h y).mpr (by simp)) with e' | e'
        · exact e'.symm
        · have := b1 x e; have := a1 y e'; omega
    subst e
    rw [up_uniq a2 b2 fun z => ?_]
    constructor
    · intro hz
      rcases List.mem_cons.mp ((h z).mp (by simp [hz])) with e | e
      · subst e; have := a1 z hz; omega
      · exact e
    · intro hz
      rcases List.mem_cons.mp ((h z).mpr (by simp [hz])) with e | e
      · subst e; have := b1 z hz; omega
      · exact e
def keysT (t : Tr α) : List Int := (ino t).map (·.1)
theorem keys_up {t : Tr α} (h : Snd t) : (keysT t).Pairwise (· < ·) := List.pairwise_map.mpr h.2
theorem mem_keys {t : Tr α} {x : Int} : x ∈ keysT t ↔ Has t x := by simp [keysT, Has]
theorem keys_eq {s t : Tr α} (hs : Snd s) (ht : Snd t) (h : ∀ x, Has s x ↔ Has t x) : keysT s = keysT t :=
  up_uniq (keys_up hs) (keys_up ht) fun x => by rw [mem_keys, mem_keys]; exact h x
theorem has_uni {t o : Tr α} (ht : Snd t) (ho : Snd o) (x : Int) : Has (uniT t o) x ↔ Has t x ∨ Has o x := by
  have := (uni_ok t o ht ho).2
  constructor
  · rintro ⟨p, hp, rfl⟩
    rcases (this p).mp hp with h | ⟨h, _⟩
    · exact .inl ⟨p, h, rfl⟩
    · exact .inr ⟨p, h, rfl⟩
  · rintro (⟨p, hp, rfl⟩ | ⟨p, hp, rfl⟩)
    · exact ⟨p, (this p).mpr (.inl hp), rfl⟩
    · by_cases c : Has t p.1
      · obtain ⟨q, hq, e⟩ := c
        exact ⟨q, (this q).mpr (.inl hq), e⟩
      · exact ⟨p, (this p).mpr (.inr ⟨hp, c⟩), rfl⟩
theorem has_int {t o : Tr α} (ht : Snd t) (ho : Snd o) (x : Int) : Has (intT t o) x ↔ Has t x ∧ Has o x := by
  have := (int_ok t o ht ho).2
  constructor
  · rintro ⟨p, hp, rfl⟩
    obtain ⟨h1, h2⟩ := (this p).mp hp
    exact ⟨⟨p, h1, rfl⟩, h2⟩
  · rintro ⟨⟨p, hp, rfl⟩, h⟩
    exact ⟨p, (this p).mpr ⟨hp, h⟩, rfl⟩
theorem has_dif {t o : Tr α} (ht : Snd t) (ho : Snd o) (x : Int) : Has (difT t o) x ↔ Has t x ∧ ¬ Has o x := by
  have := (dif_ok o t ht ho).2
  constructor
  · rintro ⟨p, hp, rfl⟩
    obtain ⟨h1, h2⟩ := (this p).mp hp
    exact ⟨⟨p, h1, rfl⟩, h2⟩
  · rintro ⟨⟨p, hp, rfl⟩, h⟩
    exact ⟨p, (this p).mpr ⟨hp, h⟩, rfl⟩
end Avl

namespace Law
open PySem L2 PF VF Avl Avl.Tr
variable [Tab]
def trD : Tr D → D
  | nil => .non
  | nd l k w r => .tup [trD l, .int k, w, trD r, .int ((ht (nd l k w r) : Nat) : Int), .int ((cnt (nd l k w r) : Nat) : Int)]
theorem V_height_eq (t : Tr D) : V_height [.val (trD t)] = .ok (.val (.int (ht t : Int))) [some (.val (trD t))] := by
  unfold V_height v_height
  cases t with
  | nil => simp [trD, ht]
  | nd l k w r => simp [trD]
theorem V_many_eq (t : Tr D) : V_how_many [.val (trD t)] = .ok (.val (.int (cnt t : Int))) [some (.val (trD t))] := by
  unfold V_how_many v_how_many
  cases t with
  | nil => simp [trD, cnt]
  | nd l k w r => simp [trD]
theorem V_node_eq (l : Tr D) (k : Int) (w : D) (r : Tr D) : V_node [.val (trD l), .val (.int k), .val w, .val (trD r)] = .ok (.val (trD (nd l k w r))) [some (.val (trD l)), some (.val (.int k)), some (.val w), some (.val (trD r))] := by
  unfold V_node v_node
  have e : trD (nd l k w r) = .tup [trD l, .int k, w, trD r, .int ((ht (nd l k w r) : Nat) : Int), .int ((cnt (nd l k w r) : Nat) : Int)] := rfl
  rw [e]
  have h1 : ((ht (nd l k w r) : Nat) : Int) = 1 + (if (ht r : Int) > (ht l : Int) then (ht r : Int) else (ht l : Int)) := by
    simp only [ht]
    split <;> omega
  have h2 : ((cnt (nd l k w r) : Nat) : Int) = 1 + (cnt l : Int) + (cnt r : Int) := by
    simp only [cnt]; omega
  rw [h1, h2]
  simp [V_height_eq, V_many_eq]
theorem V_lean_eq (l : Tr D) (k : Int) (w : D) (r : Tr D) : ∃ os, V_leaned [.val (trD l), .val (.int k), .val w, .val (trD r)] = .ok (.val (trD (leanT l k w r))) os := by
  refine ⟨[some (.val (trD l)), some (.val (.int k)), some (.val w), some (.val (trD r))], ?_⟩
  unfold V_leaned v_leaned leanT
  by_cases c1 : ht r + 1 < ht l
  · rw [if_pos c1]
    have c1' : (ht r : Int) + 1 < (ht l : Int) := by omega
    cases l with
    | nil => simp [ht] at c1
    | nd a k2 w2 b =>
      have el : trD (nd a k2 w2 b) = .tup [trD a, .int k2, w2, trD b, .int ((ht (nd a k2 w2 b) : Nat) : Int), .int ((cnt (nd a k2 w2 b) : Nat) : Int)] := rfl
      have hh := V_height_eq (nd a k2 w2 b)
      dsimp only
      by_cases c2 : ht b ≤ ht a
      · have c2' : (ht b : Int) ≤ (ht a : Int) := by omega
        rw [if_pos c2]
        generalize ht (nd a k2 w2 b) = H at *
        generalize cnt (nd a k2 w2 b) = N at *
        rw [el] at hh ⊢
        have cu : cutD [trD a, .int k2, w2, trD b, .int (H : Int), .int (N : Int)] none (some 4) = [trD a, .int k2, w2, trD b] := rfl
        simp [hh, V_height_eq, V_node_eq, c1', c2', cu]
      · have c2' : ¬ (ht b : Int) ≤ (ht a : Int) := by omega
        rw [if_neg c2]
        cases b with
        | nil => simp [ht] at c2
        | nd b0 bk bw b3 =>
          have eb : trD (nd b0 bk bw b3) = .tup [trD b0, .int bk, bw, trD b3, .int ((ht (nd b0 bk bw b3) : Nat) : Int), .int ((cnt (nd b0 bk bw b3) : Nat) : Int)] := rfl
          have hb := V_height_eq (nd b0 bk bw b3)
          dsimp only
          generalize ht (nd a k2 w2 (nd b0 bk bw b3)) = H at *
          generalize cnt (nd a k2 w2 (nd b0 bk bw b3)) = N at *
          generalize ht (nd b0 bk bw b3) = H2 at *
          generalize cnt (nd b0 bk bw b3) = N2 at *
          rw [el] at hh ⊢
          have cu : cutD [trD a, .int k2, w2, trD (nd b0 bk bw b3), .int (H : Int), .int (N : Int)] none (some 4) = [trD a, .int k2, w2, trD (nd b0 bk bw b3)] := rfl
          rw [eb] at hh cu hb ⊢
          simp [hh, hb, V_height_eq, V_node_eq, c1', c2', cu]
  · rw [if_neg c1]
    have c1' : ¬ (ht r : Int) + 1 < (ht l : Int) := by omega
    by_cases d1 : ht l + 1 < ht r
    · rw [if_pos d1]
      have d1' : (ht l : Int) + 1 < (ht r : Int) := by omega
      cases r with
      | nil => simp [ht] at d1
      | nd a k2 w2 b =>
        have el : trD (nd a k2 w2 b) = .tup [trD a, .int k2, w2, trD b, .int ((ht (nd a k2 w2 b) : Nat) : Int), .int ((cnt (nd a k2 w2 b) : Nat) : Int)] := rfl
        have hh := V_height_eq (nd a k2 w2 b)
        dsimp only
        by_cases c2 : ht a ≤ ht b
        · have c2' : (ht a : Int) ≤ (ht b : Int) := by omega
          rw [if_pos c2]
          generalize ht (nd a k2 w2 b) = H at *
          generalize cnt (nd a k2 w2 b) = N at *
          rw [el] at hh ⊢
          have cu : cutD [trD a, .int k2, w2, trD b, .int (H : Int), .int (N : Int)] none (some 4) = [trD a, .int k2, w2, trD b] := rfl
          simp [hh, V_height_eq, V_node_eq, c1', d1', c2', cu]
        · have c2' : ¬ (ht a : Int) ≤ (ht b : Int) := by omega
          rw [if_neg c2]
          cases a with
          | nil => simp [ht] at c2
          | nd a0 ak aw a3 =>
            have ea : trD (nd a0 ak aw a3) = .tup [trD a0, .int ak, aw, trD a3, .int ((ht (nd a0 ak aw a3) : Nat) : Int), .int ((cnt (nd a0 ak aw a3) : Nat) : Int)] := rfl
            have ha := V_height_eq (nd a0 ak aw a3)
            dsimp only
            generalize ht (nd (nd a0 ak aw a3) k2 w2 b) = H at *
            generalize cnt (nd (nd a0 ak aw a3) k2 w2 b) = N at *
            generalize ht (nd a0 ak aw a3) = H2 at *
            generalize cnt (nd a0 ak aw a3) = N2 at *
            rw [el] at hh ⊢
            have cu : cutD [trD (nd a0 ak aw a3), .int k2, w2, trD b, .int (H : Int), .int (N : Int)] none (some 4) = [trD (nd a0 ak aw a3), .int k2, w2, trD b] := rfl
            rw [ea] at hh cu ha ⊢
            simp [hh, ha, V_height_eq, V_node_eq, c1', d1', c2', cu]
    · rw [if_neg d1]
      have d1' : ¬ (ht l : Int) + 1 < (ht r : Int) := by omega
      simp [V_height_eq, V_node_eq, c1', d1']
end Law

namespace Law
open PySem L2 PF VF Avl Avl.Tr
variable [Tab]
@[simp] theorem trD_nil : trD nil = .non := rfl
theorem trD_nd (l : Tr D) (k : Int) (w : D) (r : Tr D) : ∃ H N : Nat, trD (nd l k w r) = .tup [trD l, .int k, w, trD r, .int (H : Int), .int (N : Int)] := ⟨_, _, rfl⟩
theorem cut4 (a b c d e f : D) : cutD [a, b, c, d, e, f] none (some 4) = [a, b, c, d] := rfl
theorem V_put_eq (C : Addr) (k : Int) (w : D) (hk : inKey k) : ∀ (t : Tr D) (n : Nat), ht t < n → ∃ os, V_put C n [.val (trD t), .val (.int k), .val w] = .ok (.val (trD (putT t k w))) os
  | nil, n, h => by
    obtain ⟨n, rfl⟩ : ∃ m, n = m + 1 := ⟨n - 1, by omega⟩
    have e := V_node_eq nil k w nil
    have ck := V_check_key_eq C k hk
    refine ⟨[some (.val .non), some (.val (.int k)), some (.val w)], ?_⟩
    unfold V_put v_put
    rw [trD_nil] at e ⊢
    simp [ck, e, putT]
  | nd l h v r, n, hn => by
    obtain ⟨n, rfl⟩ : ∃ m, n = m + 1 := ⟨n - 1, by omega⟩
    have ck := V_check_key_eq C k hk
    simp only [ht] at hn
    obtain ⟨o1, e1⟩ := V_put_eq C k w hk l n (by omega)
    obtain ⟨o2, e2⟩ := V_put_eq C k w hk r n (by omega)
    obtain ⟨o3, e3⟩ := V_lean_eq (putT l k w) h v r
    obtain ⟨o4, e4⟩ := V_lean_eq l h v (putT r k w)
    have e5 := V_node_eq l k w r
    obtain ⟨H, N, et⟩ := trD_nd l h v r
    rw [et]
    unfold V_put v_put putT
    generalize V_put C n = VP at *
    by_cases c : k = h
    · subst c
      rw [if_pos rfl]
      exact ex_ok (by simp [ck, cut4, e5])
    · rw [if_neg c]
      by_cases c2 : k < h
      · rw [if_pos c2]
        exact ex_ok (by simp [ck, cut4, c, c2, e1, e3])
      · rw [if_neg c2]
        exact ex_ok (by simp [ck, cut4, c, c2, e2, e4])
/-- the least -/
def lmT : Tr D → Tr D
  | nil => nil
  | nd nil k w r => nd nil k w r
  | nd (nd a b c d) _ _ _ => lmT (nd a b c d)
theorem lm_ok : ∀ t : Tr D, t = nil ∨ ∃ k w r, lmT t = nd nil k w r ∧ headL (ino t) = some (k, w)
  | nil => .inl rfl
  | nd nil k w r => .inr ⟨k, w, r, rfl, rfl⟩
  | nd (nd a b c d) k w r => by
    rcases lm_ok (nd a b c d) with h | ⟨k2, w2, r2, h1, h2⟩
    · cases h
    · refine .inr ⟨k2, w2, r2, by rw [lmT]; exact h1, ?_⟩
      cases hi : ino (nd a b c d) with
      | nil => rw [hi] at h2; cases h2
      | cons p ps =>
        rw [hi] at h2
        rw [ino, hi]
        exact h2
theorem least_while : ∀ (t : Tr D) (n : Nat), t ≠ nil → ht t < n → vWhile v_least_c1 v_least_b1 n ⟨[some (.val (trD t))], []⟩ = .nx ⟨[some (.val (trD (lmT t)))], []⟩
  | nil, n, h, _ => absurd rfl h
  | nd nil k w r, n, h, hn => by
    obtain ⟨n, rfl⟩ : ∃ m, n = m + 1 := ⟨n - 1, by omega⟩
    obtain ⟨H, N, et⟩ := trD_nd nil k w r
    rw [lmT, et, vWhile_succ]
    unfold v_least_c1
    simp
  | nd (nd a b c d) k w r, n, h, hn => by
    obtain ⟨n, rfl⟩ : ∃ m, n = m + 1 := ⟨n - 1, by omega⟩
    have ih := least_while (nd a b c d) n (by simp) (by simp only [ht] at hn ⊢; omega)
    obtain ⟨H, N, et⟩ := trD_nd (nd a b c d) k w r
    obtain ⟨H2, N2, et2⟩ := trD_nd a b c d
    rw [lmT, et, vWhile_succ, ← ih]
    generalize vWhile v_least_c1 v_least_b1 n = W at *
    rw [et2]
    unfold v_least_c1 v_least_b1
    simp
theorem V_least_eq (t : Tr D) (p : Int × D) (h : headL (ino t) = some p) (hn : ht t < 100000) : ∃ os, V_least [.val (trD t)] = .ok (.val (.tup [.int p.1, p.2])) os := by
  rcases lm_ok t with rfl | ⟨k, w, r, h1, h2⟩
  · cases h
  · rw [h] at h2; cases h2
    have hne : t ≠ nil := fun q => by subst q; cases h
    have e := least_while t 100000 hne hn
    refine ⟨[some (.val (trD (lmT t)))], ?_⟩
    have hi : isNon (trD t) = false := by cases t with
      | nil => exact absurd rfl hne
      | nd a b c d => rfl
    rw [h1] at e ⊢
    obtain ⟨H, N, et⟩ := trD_nd nil k w r
    rw [et] at e ⊢
    unfold V_least v_least
    generalize trD t = T at *
    simp [hi, e]
theorem V_wl_eq : ∀ (t : Tr D) (n : Nat), t ≠ nil → ht t < n → ∃ os, V_without_least n [.val (trD t)] = .ok (.val (trD (wlT t))) os
  | nil, n, h, _ => absurd rfl h
  | nd nil k w r, n, h, hn => by
    obtain ⟨n, rfl⟩ : ∃ m, n = m + 1 := ⟨n - 1, by omega⟩
    obtain ⟨H, N, et⟩ := trD_nd nil k w r
    rw [et, wlT]
    unfold V_without_least v_without_least
    exact ex_ok (by simp)
  | nd (nd a b c d) k w r, n, h, hn => by
    obtain ⟨n, rfl⟩ : ∃ m, n = m + 1 := ⟨n - 1, by omega⟩
    obtain ⟨o1, e1⟩ := V_wl_eq (nd a b c d) n (by simp) (by simp only [ht] at hn ⊢; omega)
    obtain ⟨o2, e2⟩ := V_lean_eq (wlT (nd a b c d)) k w r
    obtain ⟨H, N, et⟩ := trD_nd (nd a b c d) k w r
    obtain ⟨H2, N2, et2⟩ := trD_nd a b c d
    rw [et, wlT]
    rw [et2] at e1 ⊢
    unfold V_without_least v_without_least
    generalize V_without_least n = VW at *
    exact ex_ok (by simp [e1, e2])
theorem V_join_eq (k : Int) (w : D) : ∀ (n : Nat) (l r : Tr D), ht l + ht r < n → ∃ os, V_joined n [.val (trD l), .val (.int k), .val w, .val (trD r)] = .ok (.val (trD (joinT l k w r))) os
  | 0, l, r, h => by omega
  | n + 1, l, r, hn => by
    unfold V_joined v_joined joinT
    by_cases c1 : ht r + 1 < ht l
    · rw [if_pos c1]
      have c1' : (ht r : Int) + 1 < (ht l : Int) := by omega
      cases l with
      | nil => simp [ht] at c1
      | nd a k2 w2 b =>
        obtain ⟨o1, e1⟩ := V_join_eq k w n b r (by simp only [ht] at hn; omega)
        obtain ⟨o2, e2⟩ := V_lean_eq a k2 w2 (joinT b k w r)
        have hh := V_height_eq (nd a k2 w2 b)
        obtain ⟨H, N, et⟩ := trD_nd a k2 w2 b
        dsimp only
        generalize ht (nd a k2 w2 b) = Z at *
        rw [et] at hh ⊢
        generalize V_joined n = VJ at *
        exact ex_ok (by simp [hh, V_height_eq, c1', e1, e2])
    · rw [if_neg c1]
      have c1' : ¬ (ht r : Int) + 1 < (ht l : Int) := by omega
      by_cases d1 : ht l + 1 < ht r
      · rw [if_pos d1]
        have d1' : (ht l : Int) + 1 < (ht r : Int) := by omega
        cases r with
        | nil => simp [ht] at d1
        | nd a k2 w2 b =>
          obtain ⟨o1, e1⟩ := V_join_eq k w n l a (by simp only [ht] at hn; omega)
          obtain ⟨o2, e2⟩ := V_lean_eq (joinT l k w a) k2 w2 b
          have hh := V_height_eq (nd a k2 w2 b)
          obtain ⟨H, N, et⟩ := trD_nd a k2 w2 b
          dsimp only
          generalize ht (nd a k2 w2 b) = Z at *
          rw [et] at hh ⊢
          generalize V_joined n = VJ at *
          exact ex_ok (by simp [hh, V_height_eq, c1', d1', e1, e2])
      · rw [if_neg d1]
        have d1' : ¬ (ht l : Int) + 1 < (ht r : Int) := by omega
        exact ex_ok (by simp [V_height_eq, V_node_eq, c1', d1'])
end Law

namespace Law
open PySem L2 PF VF Avl Avl.Tr
variable [Tab]
def goodP (p : Int × D) : Prop := -13 ≤ p.1 ∧ p.1 ≤ 13 ∧ isNon p.2 = false ∧ (∀ n, gud n p.2) ∧ eqq p.2 p.2 = true
def OkT (t : Tr D) : Prop := Snd t ∧ ∀ p ∈ ino t, goodP p
theorem len_up {hi : Int} : ∀ {l : List (Int × D)} {lo : Int}, Up l → (∀ p ∈ l, lo ≤ p.1 ∧ p.1 ≤ hi) → (l.length : Int) ≤ max 0 (hi - lo + 1)
  | [], lo, _, _ => by simp; omega
  | p :: l, lo, h, hb => by
    obtain ⟨h1, h2⟩ := List.pairwise_cons.mp h
    have b := hb p (by simp)
    have ih := len_up (lo := p.1 + 1) h2 fun q hq => ⟨by have := h1 q hq; omega, (hb q (by simp [hq])).2⟩
    simp only [List.length_cons]
    omega
theorem ht_len : ∀ t : Tr D, ht t ≤ (ino t).length
  | nil => by simp [ht]
  | nd l k w r => by
    have h1 := ht_len l
    have h2 := ht_len r
    simp only [ht, ino, List.length_append, List.length_cons]
    omega
theorem okT_ht {t : Tr D} (h : OkT t) : ht t ≤ 27 := by
  have h1 := len_up (lo := -13) (hi := 13) h.1.2 fun p hp => ⟨(h.2 p hp).1, (h.2 p hp).2.1⟩
  have h2 := ht_len t
  omega
theorem sep_ht {l r : Tr D} (hl : OkT l) (hr : OkT r) (h : ∀ q ∈ ino l, ∀ p ∈ ino r, q.1 < p.1) : ht l + ht r ≤ 27 := by
  have h1 := len_up (lo := -13) (hi := 13) (l := ino l ++ ino r) (up_app.mpr ⟨hl.1.2, hr.1.2, h⟩) fun p hp => by
    rcases List.mem_append.mp hp with e | e
    · exact ⟨(hl.2 p e).1, (hl.2 p e).2.1⟩
    · exact ⟨(hr.2 p e).1, (hr.2 p e).2.1⟩
  have h2 := ht_len l
  have h3 := ht_len r
  simp at h1
  omega
theorem mid_ht {l r : Tr D} {k : Int} (hl : OkT l) (hr : OkT r) (h3 : ∀ q ∈ ino l, q.1 < k) (h4 : ∀ q ∈ ino r, k < q.1) : ht l + ht r < 40 := by
  have := sep_ht hl hr fun q hq p hp => by have := h3 q hq; have := h4 p hp; omega
  omega
theorem okT_sides {l r : Tr D} {k : Int} {w : D} (h : OkT (nd l k w r)) : OkT l ∧ OkT r ∧ (∀ q ∈ ino l, q.1 < k) ∧ (∀ q ∈ ino r, k < q.1) ∧ goodP (k, w) := by
  obtain ⟨s1, s2, s3, s4⟩ := snd_sides h.1
  exact ⟨⟨s1, fun p hp => h.2 p (by simp [ino, hp])⟩, ⟨s2, fun p hp => h.2 p (by simp [ino, hp])⟩, s3, s4, h.2 (k, w) (by simp [ino])⟩
theorem okT_spl {t : Tr D} (h : OkT t) (k : Int) : OkT (splT t k).1 ∧ OkT (splT t k).2.2 := by
  obtain ⟨s1, s2⟩ := snd_spl h.1 k
  exact ⟨⟨s1, fun p hp => h.2 p ((mem_lo h.1 k p).mp hp).1⟩, ⟨s2, fun p hp => h.2 p ((mem_hi h.1 k p).mp hp).1⟩⟩
theorem okT_uni {t o : Tr D} (ht : OkT t) (ho : OkT o) : OkT (uniT t o) :=
  ⟨(uni_ok t o ht.1 ho.1).1, fun p hp => by
    rcases ((uni_ok t o ht.1 ho.1).2 p).mp hp with e | ⟨e, _⟩
    · exact ht.2 p e
    · exact ho.2 p e⟩
theorem okT_int {t o : Tr D} (ht : OkT t) (ho : OkT o) : OkT (intT t o) :=
  ⟨(int_ok t o ht.1 ho.1).1, fun p hp => ht.2 p (((int_ok t o ht.1 ho.1).2 p).mp hp).1⟩
theorem okT_dif {t o : Tr D} (ht : OkT t) (ho : OkT o) : OkT (difT t o) :=
  ⟨(dif_ok o t ht.1 ho.1).1, fun p hp => ht.2 p (((dif_ok o t ht.1 ho.1).2 p).mp hp).1⟩
theorem okT_join {l r : Tr D} {k : Int} {w : D} (hl : OkT l) (hr : OkT r) (h3 : ∀ q ∈ ino l, q.1 < k) (h4 : ∀ q ∈ ino r, k < q.1) (hg : goodP (k, w)) : OkT (joinT l k w r) :=
  ⟨snd_join hl.1 hr.1 h3 h4, fun p hp => by
    rw [ino_join] at hp
    rcases List.mem_append.mp hp with e | e
    · exact hl.2 p e
    · rcases List.mem_cons.mp e with rfl | e
      · exact hg
      · exact hr.2 p e⟩
def optD : Option D → D
  | none => .non
  | some w => w
theorem isN (t : Tr D) : isNon (trD t) = decide (ht t = 0) := by
  cases t with
  | nil => rfl
  | nd l k w r =>
    have : ¬ ht (nd l k w r) = 0 := by simp only [ht]; omega
    rw [decide_eq_false this]; rfl
theorem V_beh_eq {l r : Tr D} (hl : OkT l) (hr : OkT r) (h : ∀ q ∈ ino l, ∀ p ∈ ino r, q.1 < p.1) : ∃ os, V_behind [.val (trD l), .val (trD r)] = .ok (.val (trD (behT l r))) os := by
  cases r with
  | nil =>
    have e : behT l nil = l := rfl
    rw [e]
    unfold V_behind v_behind
    exact ex_ok (by simp)
  | nd a b c d =>
    rcases wl_ok (nd a b c d) with ⟨p, hp⟩ | h0
    · have hd : headL (ino (nd a b c d)) = some p := by rw [hp]; rfl
      have hh := okT_ht hr
      obtain ⟨o1, e1⟩ := V_least_eq (nd a b c d) p hd (by omega)
      obtain ⟨o2, e2⟩ := V_wl_eq (nd a b c d) 40 (by simp) (by omega)
      have hw := (bal_wl _ hr.1.1).2.1
      have hs := sep_ht hl hr h
      obtain ⟨o3, e3⟩ := V_join_eq p.1 p.2 40 l (wlT (nd a b c d)) (by omega)
      have hb : behT l (nd a b c d) = joinT l p.1 p.2 (wlT (nd a b c d)) := by unfold behT; rw [hd]
      rw [hb]
      have hN : isNon (trD (nd a b c d)) = false := rfl
      generalize trD (nd a b c d) = T at *
      unfold V_behind v_behind
      exact ex_ok (by simp [hN, e1, e2, e3])
    · cases h0
theorem V_spl_eq (k : Int) : ∀ (t : Tr D) (n : Nat), OkT t → ht t < n → ∃ os, V_split n [.val (trD t), .val (.int k)] = .ok (.val (.tup [trD (splT t k).1, optD (splT t k).2.1, trD (splT t k).2.2])) os
  | nil, n, h, hn => by
    obtain ⟨n, rfl⟩ : ∃ m, n = m + 1 := ⟨n - 1, by omega⟩
    unfold V_split v_split
    exact ex_ok (by simp [splT, optD])
  | nd l h v r, n, hO, hn => by
    obtain ⟨n, rfl⟩ : ∃ m, n = m + 1 := ⟨n - 1, by omega⟩
    obtain ⟨s1, s2, s3, s4, s5⟩ := okT_sides hO
    simp only [ht] at hn
    obtain ⟨o1, e1⟩ := V_spl_eq k l n s1 (by omega)
    obtain ⟨o2, e2⟩ := V_spl_eq k r n s2 (by omega)
    obtain ⟨a1, a2⟩ := okT_spl s1 k
    obtain ⟨b1, b2⟩ := okT_spl s2 k
    obtain ⟨o3, e3⟩ := V_join_eq h v 40 (splT l k).2.2 r (mid_ht a2 s2 (fun q hq => s3 q ((mem_hi s1.1 k q).mp hq).1) s4)
    obtain ⟨o4, e4⟩ := V_join_eq h v 40 l (splT r k).1 (mid_ht s1 b1 s3 (fun q hq => s4 q ((mem_lo s2.1 k q).mp hq).1))
    obtain ⟨H, N, et⟩ := trD_nd l h v r
    rw [et]
    unfold V_split v_split splT
    generalize V_split n = VS at *
    generalize V_joined 40 = VJ at *
    by_cases c : k = h
    · subst c
      rw [if_pos rfl]
      exact ex_ok (by simp [cut4, optD])
    · rw [if_neg c]
      by_cases c2 : k < h
      · rw [if_pos c2]
        dsimp only
        generalize optD (splT l k).2.1 = W at *
        exact ex_ok (by simp [cut4, c, c2, e1, e3])
      · rw [if_neg c2]
        dsimp only
        generalize optD (splT r k).2.1 = W at *
        exact ex_ok (by simp [cut4, c, c2, e2, e4])
theorem V_uni_eq : ∀ (t o : Tr D) (n : Nat), OkT t → OkT o → ht t < n → ∃ os, V_put_together n [.val (trD t), .val (trD o)] = .ok (.val (trD (uniT t o))) os
  | nil, o, n, h, ho, hn => by
    obtain ⟨n, rfl⟩ : ∃ m, n = m + 1 := ⟨n - 1, by omega⟩
    unfold V_put_together v_put_together
    exact ex_ok (by simp [uniT])
  | nd l k w r, o, n, hO, ho, hn => by
    obtain ⟨n, rfl⟩ : ∃ m, n = m + 1 := ⟨n - 1, by omega⟩
    obtain ⟨s1, s2, s3, s4, s5⟩ := okT_sides hO
    simp only [ht] at hn
    have hh := okT_ht ho
    obtain ⟨a1, a2⟩ := okT_spl ho k
    obtain ⟨o1, e1⟩ := V_uni_eq l (splT o k).1 n s1 a1 (by omega)
    obtain ⟨o2, e2⟩ := V_uni_eq r (splT o k).2.2 n s2 a2 (by omega)
    obtain ⟨o3, e3⟩ := V_spl_eq k o 40 ho (by omega)
    obtain ⟨o4, e4⟩ := V_join_eq k w 40 (uniT l (splT o k).1) (uniT r (splT o k).2.2) (mid_ht (okT_uni s1 a1) (okT_uni s2 a2)
      (fun q hq => by
        rcases ((uni_ok _ _ s1.1 a1.1).2 q).mp hq with e | ⟨e, _⟩
        · exact s3 q e
        · exact ((mem_lo ho.1 k q).mp e).2)
      (fun q hq => by
        rcases ((uni_ok _ _ s2.1 a2.1).2 q).mp hq with e | ⟨e, _⟩
        · exact s4 q e
        · exact ((mem_hi ho.1 k q).mp e).2))
    obtain ⟨H, N, et⟩ := trD_nd l k w r
    rw [et]
    unfold V_put_together v_put_together uniT
    generalize V_put_together n = VU at *
    generalize V_joined 40 = VJ at *
    generalize V_split 40 = VS at *
    generalize optD (splT o k).2.1 = W at *
    exact ex_ok (by simp [e1, e2, e3, e4])
theorem V_int_eq : ∀ (t o : Tr D) (n : Nat), OkT t → OkT o → ht t < n → ∃ os, V_shared n [.val (trD t), .val (trD o)] = .ok (.val (trD (intT t o))) os
  | nil, o, n, h, ho, hn => by
    obtain ⟨n, rfl⟩ : ∃ m, n = m + 1 := ⟨n - 1, by omega⟩
    unfold V_shared v_shared
    exact ex_ok (by simp [intT])
  | nd l k w r, nil, n, h, ho, hn => by
    obtain ⟨n, rfl⟩ : ∃ m, n = m + 1 := ⟨n - 1, by omega⟩
    obtain ⟨H, N, et⟩ := trD_nd l k w r
    rw [et]
    unfold V_shared v_shared
    exact ex_ok (by simp [intT])
  | nd l k w r, nd a b c d, n, hO, ho, hn => by
    obtain ⟨n, rfl⟩ : ∃ m, n = m + 1 := ⟨n - 1, by omega⟩
    obtain ⟨s1, s2, s3, s4, s5⟩ := okT_sides hO
    simp only [ht] at hn
    have hN : isNon (trD (nd a b c d)) = false := rfl
    simp only [intT]
    generalize nd a b c d = o at *
    have hh := okT_ht ho
    obtain ⟨a1, a2⟩ := okT_spl ho k
    obtain ⟨o1, e1⟩ := V_int_eq l (splT o k).1 n s1 a1 (by omega)
    obtain ⟨o2, e2⟩ := V_int_eq r (splT o k).2.2 n s2 a2 (by omega)
    obtain ⟨o3, e3⟩ := V_spl_eq k o 40 ho (by omega)
    have l1 : ∀ q ∈ ino (intT l (splT o k).1), q.1 < k := fun q hq => s3 q (((int_ok _ _ s1.1 a1.1).2 q).mp hq).1
    have l2 : ∀ q ∈ ino (intT r (splT o k).2.2), k < q.1 := fun q hq => s4 q (((int_ok _ _ s2.1 a2.1).2 q).mp hq).1
    obtain ⟨o4, e4⟩ := V_join_eq k w 40 (intT l (splT o k).1) (intT r (splT o k).2.2) (mid_ht (okT_int s1 a1) (okT_int s2 a2) l1 l2)
    obtain ⟨o5, e5⟩ := V_beh_eq (okT_int s1 a1) (okT_int s2 a2) fun q hq p hp => by have := l1 q hq; have := l2 p hp; omega
    obtain ⟨H, N, et⟩ := trD_nd l k w r
    rw [et]
    obtain ⟨_, _, g3, g4⟩ := ino_spl k o ho.1.2
    unfold V_shared v_shared
    generalize V_shared n = VU at *
    generalize V_joined 40 = VJ at *
    generalize V_split 40 = VS at *
    cases hb : (splT o k).2.1 with
    | none =>
      rw [hb] at e3
      simp only [optD] at e3
      dsimp only
      exact ex_ok (by simp [hN, e1, e2, e3, e5])
    | some v =>
      have hv := (ho.2 _ ((g3 v).mp hb)).2.2.1
      have hv : isNon v = false := hv
      rw [hb] at e3
      simp only [optD] at e3
      dsimp only
      exact ex_ok (by simp [hN, hv, e1, e2, e3, e4])
theorem V_dif_eq : ∀ (o t : Tr D) (n : Nat), OkT t → OkT o → ht o < n → ∃ os, V_less n [.val (trD t), .val (trD o)] = .ok (.val (trD (difT t o))) os
  | nil, t, n, h, ho, hn => by
    obtain ⟨n, rfl⟩ : ∃ m, n = m + 1 := ⟨n - 1, by omega⟩
    have e : difT t nil = t := by cases t <;> rfl
    rw [e]
    unfold V_less v_less
    exact ex_ok (by cases hN : isNon (trD t) <;> simp [hN])
  | nd a b c d, nil, n, h, ho, hn => by
    obtain ⟨n, rfl⟩ : ∃ m, n = m + 1 := ⟨n - 1, by omega⟩
    unfold V_less v_less
    exact ex_ok (by simp [difT])
  | nd a b c d, nd l k w r, n, h, hO, hn => by
    obtain ⟨n, rfl⟩ : ∃ m, n = m + 1 := ⟨n - 1, by omega⟩
    obtain ⟨s1, s2, s3, s4, s5⟩ := okT_sides hO
    simp only [ht] at hn
    have hN : isNon (trD (nd l k w r)) = false := rfl
    simp only [difT]
    generalize nd l k w r = t at *
    have hh := okT_ht h
    obtain ⟨a1, a2⟩ := okT_spl h b
    obtain ⟨o1, e1⟩ := V_dif_eq a (splT t b).1 n a1 s1 (by omega)
    obtain ⟨o2, e2⟩ := V_dif_eq d (splT t b).2.2 n a2 s2 (by omega)
    obtain ⟨o3, e3⟩ := V_spl_eq b t 40 h (by omega)
    obtain ⟨o5, e5⟩ := V_beh_eq (okT_dif a1 s1) (okT_dif a2 s2) fun q hq p hp => by
      have c1 := ((mem_lo h.1 b q).mp (((dif_ok _ _ a1.1 s1.1).2 q).mp hq).1).2
      have c2 := ((mem_hi h.1 b p).mp (((dif_ok _ _ a2.1 s2.1).2 p).mp hp).1).2
      omega
    obtain ⟨H, N, et⟩ := trD_nd a b c d
    rw [et]
    unfold V_less v_less
    generalize V_less n = VU at *
    generalize V_split 40 = VS at *
    generalize optD (splT t b).2.1 = W at *
    exact ex_ok (by simp [hN, e1, e2, e3, e5])
end Law

namespace Law
open PySem L2 PF VF Avl Avl.Tr
variable [Tab]
theorem V_pop_snoc (xs : List M) (m : M) : V_pop [.lst (xs ++ [m])] = .ok m [some (.lst xs)] := by unfold V_pop; simp
theorem V_ext_val (xs : List M) (ds : List D) (h : xs.length + ds.length ≤ 1000000) : V_extend [.lst xs, .val (.lst ds)] = .ok (.val .non) [some (.lst (xs ++ ds.map M.val))] := by unfold V_extend; simp [h]
def Gt (t : Tr D) : Prop := ht t ≤ 60 ∧ ∀ p ∈ ino t, ∀ n, gud n p.2
theorem gud_tr : ∀ (t : Tr D) (n : Nat), ht t ≤ n → (∀ p ∈ ino t, ∀ n, gud n p.2) → gud n (trD t)
  | nil, n, _, _ => by simp
  | nd l k w r, n, h, hg => by
    simp only [ht] at h
    obtain ⟨n, rfl⟩ : ∃ m, n = m + 1 := ⟨n - 1, by omega⟩
    have h1 := gud_tr l n (by omega) fun p hp => hg p (by simp [ino, hp])
    have h2 := gud_tr r n (by omega) fun p hp => hg p (by simp [ino, hp])
    have h3 := hg (k, w) (by simp [ino]) n
    obtain ⟨H, N, et⟩ := trD_nd l k w r
    rw [et]
    simp [h1, h2, h3]
theorem Gt.sides {l r : Tr D} {k : Int} {w : D} (h : Gt (nd l k w r)) : Gt l ∧ Gt r ∧ ∀ n, gud n w :=
  ⟨⟨by have := h.1; simp only [ht] at this; omega, fun p hp => h.2 p (by simp [ino, hp])⟩, ⟨by have := h.1; simp only [ht] at this; omega, fun p hp => h.2 p (by simp [ino, hp])⟩, h.2 (k, w) (by simp [ino])⟩
/-- the stack: the top first -/
def stk (st : List (Tr D)) : List D := (st.map trD).reverse
theorem stk_cons (t : Tr D) (st : List (Tr D)) : stk (t :: st) = stk st ++ [trD t] := by simp [stk]
theorem stk_len (st : List (Tr D)) : (stk st).length = st.length := by simp [stk]
theorem stk_ne {st : List (Tr D)} (hg : ∀ t ∈ st, Gt t) : gNe (.lst (stk st)) (.lst []) [] = some (.bl (!decide (st = [])), []) := by
  have h : guds 63 (stk st) := guds_all fun d hd => by
    simp only [stk, List.mem_reverse, List.mem_map] at hd
    obtain ⟨t, ht, rfl⟩ := hd
    exact gud_tr t 63 (by have := (hg t ht).1; omega) (hg t ht).2
  have e : eqqs (stk st) [] = decide (st = []) := by
    cases st with
    | nil => rfl
    | cons t st =>
      have : stk (t :: st) ≠ [] := fun q => by have := congrArg List.length q; rw [stk_len] at this; simp at this
      cases hs : stk (t :: st) with
      | nil => exact absurd hs this
      | cons x xs => simp
  simp [h, e]
def pushT : Tr D → List (Tr D) → List (Tr D)
  | nil, st => st
  | nd l k w r, st => pushT l (nd l k w r :: st)
def restL : List (Tr D) → List (Int × D)
  | [] => []
  | nil :: st => restL st
  | nd _ k w r :: st => (k, w) :: (ino r ++ restL st)
theorem rest_push : ∀ (t : Tr D) (st : List (Tr D)), restL (pushT t st) = ino t ++ restL st
  | nil, st => rfl
  | nd l k w r, st => by rw [pushT, rest_push l]; simp [restL, ino]
theorem push_all {P : Tr D → Prop} (hP : ∀ l k w r, P (nd l k w r) → P l) : ∀ (t : Tr D) (st : List (Tr D)), P t → (∀ s ∈ st, P s) → ∀ s ∈ pushT t st, P s
  | nil, st, _, h => h
  | nd l k w r, st, ht, h => by
    rw [pushT]
    exact push_all hP l _ (hP l k w r ht) fun s hs => by
      rcases List.mem_cons.mp hs with rfl | hs
      · exact ht
      · exact h s hs
theorem push_nn : ∀ (t : Tr D) (st : List (Tr D)), (∀ s ∈ st, s ≠ nil) → ∀ s ∈ pushT t st, s ≠ nil
  | nil, st, h => h
  | nd l k w r, st, h => by
    rw [pushT]
    exact push_nn l _ fun s hs => by
      rcases List.mem_cons.mp hs with rfl | hs
      · simp
      · exact h s hs
theorem push_len : ∀ (t : Tr D) (st : List (Tr D)), (pushT t st).length = st.length + (pushT t []).length
  | nil, st => rfl
  | nd l k w r, st => by
    rw [pushT, push_len l, pushT, push_len l [nd l k w r]]
    simp; omega
theorem nn_len : ∀ (st : List (Tr D)), (∀ s ∈ st, s ≠ nil) → st.length ≤ (restL st).length
  | [], _ => by simp
  | nil :: st, h => absurd rfl (h nil (by simp))
  | nd l k w r :: st, h => by
    have := nn_len st fun s hs => h s (by simp [hs])
    simp [restL]; omega
theorem in_while (f : Option M) : ∀ (t : Tr D) (n : Nat) (st : List (Tr D)), ht t < n → st.length + ht t < 100000 →
    vWhile v_pairs_c2 v_pairs_b2 n ⟨[some (.val (trD t)), f, some (.lst ((stk st).map M.val))], []⟩ = .nx ⟨[some (.val .non), f, some (.lst ((stk (pushT t st)).map M.val))], []⟩
  | nil, n, st, hn, _ => by
    obtain ⟨n, rfl⟩ : ∃ m, n = m + 1 := ⟨n - 1, by omega⟩
    rw [vWhile_succ]
    unfold v_pairs_c2
    simp [pushT]
  | nd l k w r, n, st, hn, hl => by
    obtain ⟨n, rfl⟩ : ∃ m, n = m + 1 := ⟨n - 1, by omega⟩
    simp only [ht] at hn hl
    have ih := in_while f l n (nd l k w r :: st) (by omega) (by simp; omega)
    rw [stk_cons] at ih
    rw [pushT, ← ih, vWhile_succ]
    obtain ⟨H, N, et⟩ := trD_nd l k w r
    have hx : (stk st).length < 1000000 := by rw [stk_len]; omega
    generalize vWhile v_pairs_c2 v_pairs_b2 n = W
    rw [et]
    generalize stk st = xs at *
    unfold v_pairs_c2 v_pairs_b2
    simp [hx]
def pD (p : Int × D) : D := .tup [.int p.1, p.2]
theorem out_while : ∀ (N : Nat) (t : Tr D) (st : List (Tr D)) (fnd : List D), (ino t ++ restL st).length < N → fnd.length + (ino t ++ restL st).length ≤ 1000 → (∀ s ∈ st, s ≠ nil) → Gt t → (∀ s ∈ st, Gt s) →
    vWhile v_pairs_c1 v_pairs_b1 N ⟨[some (.val (trD t)), some (.lst (fnd.map M.val)), some (.lst ((stk st).map M.val))], []⟩ = .nx ⟨[some (.val .non), some (.lst ((fnd ++ (ino t ++ restL st).map pD).map M.val)), some (.lst [])], []⟩
  | 0, t, st, fnd, h, _, _, _, _ => by omega
  | N + 1, t, st, fnd, h, hb, hnn, hG, hGs => by
    rw [vWhile_succ]
    have hne := stk_ne hGs
    by_cases c : t = nil ∧ st = []
    · obtain ⟨rfl, rfl⟩ := c
      have e0 : stk [] = [] := rfl
      rw [e0] at hne ⊢
      unfold v_pairs_c1
      simp [ino, restL]
    · have hc : v_pairs_c1 ⟨[some (.val (trD t)), some (.lst (fnd.map M.val)), some (.lst ((stk st).map M.val))], []⟩ = .ok true ⟨[some (.val (trD t)), some (.lst (fnd.map M.val)), some (.lst ((stk st).map M.val))], []⟩ := by
        unfold v_pairs_c1
        cases t with
        | nil =>
          have hs : decide (st = []) = false := by simpa using fun q => c ⟨rfl, q⟩
          rw [hs] at hne
          generalize stk st = xs at *
          simp [-gNe_g, hne]
        | nd l k w r =>
          have : isNon (trD (nd l k w r)) = false := rfl
          generalize trD (nd l k w r) = T at *
          simp [this]
      rw [hc, tv_ok, if_pos rfl]
      have hl := nn_len st hnn
      have hht := ht_len t
      simp only [List.length_append] at h hb
      have hin := in_while (some (.lst (fnd.map M.val))) t 100000 st (by omega) (by omega)
      have hp := rest_push t st
      have hpn := push_nn t st hnn
      have hpg := push_all (P := Gt) (fun l k w r q => q.sides.1) t st hG hGs
      have hpl := nn_len (pushT t st) hpn
      cases hps : pushT t st with
      | nil =>
        rw [hps] at hp
        have e1 : ino t ++ restL st = [] := hp.symm
        have e2 := List.append_eq_nil_iff.mp e1
        exfalso
        refine c ⟨?_, ?_⟩
        · cases t with
          | nil => rfl
          | nd l k w r => simp [ino] at e2
        · cases st with
          | nil => rfl
          | cons s st =>
            cases s with
            | nil => exact absurd rfl (hnn nil (by simp))
            | nd l k w r => simp [restL] at e2
      | cons s st2 =>
        rw [hps] at hp hpn hpg hpl
        cases s with
        | nil => exact absurd rfl (hpn nil (by simp))
        | nd l k w r =>
          obtain ⟨g1, g2, g3⟩ := (hpg _ (by simp : nd l k w r ∈ nd l k w r :: st2)).sides
          have hlen : (restL (nd l k w r :: st2)).length = (ino t ++ restL st).length := by rw [hp]
          simp only [restL, List.length_cons, List.length_append] at hlen
          have ih := out_while N r st2 (fnd ++ [pD (k, w)]) (by simp only [List.length_append]; omega) (by simp only [List.length_append, List.length_cons, List.length_nil]; omega) (fun s hs => hpn s (by simp [hs])) g2 (fun s hs => hpg s (by simp [hs]))
          have hb1 : v_pairs_b1 ⟨[some (.val (trD t)), some (.lst (fnd.map M.val)), some (.lst ((stk st).map M.val))], []⟩ = .nx ⟨[some (.val (trD r)), some (.lst ((fnd ++ [pD (k, w)]).map M.val)), some (.lst ((stk st2).map M.val))], []⟩ := by
            unfold v_pairs_b1
            rw [hps, stk_cons] at hin
            obtain ⟨H, NN, et⟩ := trD_nd l k w r
            rw [et] at hin
            have hf : fnd.length < 1000000 := by omega
            generalize stk st2 = ys at *
            generalize stk st = xs at *
            rw [vSeq_eq, hin]
            simp [V_pop_snoc, hf, pD]
          rw [hb1, turnV_nx, ih]
          have e3 : (fnd ++ [pD (k, w)]) ++ (ino r ++ restL st2).map pD = fnd ++ (ino t ++ restL st).map pD := by
            rw [← hp]; simp [restL]
          rw [e3]
theorem V_pairs_eq {t : Tr D} (h : OkT t) : ∃ os, V_pairs [.val (trD t)] = .ok (.val (.tup ((ino t).map pD))) os := by
  have hh := okT_ht h
  have hl := len_up (lo := -13) (hi := 13) h.1.2 fun p hp => ⟨(h.2 p hp).1, (h.2 p hp).2.1⟩
  have e := out_while 100000 t [] [] (by simp [restL]; omega) (by simp [restL]; omega) (by simp) ⟨by omega, fun p hp => (h.2 p hp).2.2.2.1⟩ (by simp)
  have e0 : stk [] = [] := rfl
  have e1 : restL [] = [] := rfl
  rw [e0, e1, List.append_nil, List.nil_append] at e
  simp only [List.map_nil] at e
  generalize (ino t).map pD = PP at *
  unfold V_pairs v_pairs
  exact ex_ok (by simp [e])
end Law

namespace Law
open PySem L2 PF VF Avl Avl.Tr
variable [Tab]
/-- sound, and what is told can be compared -/
def Ct (t : Tr D) : Prop := Gt t ∧ Bal t ∧ ∀ p ∈ ino t, eqq p.2 p.2 = true
theorem Ct.sides {l r : Tr D} {k : Int} {w : D} (h : Ct (nd l k w r)) : Ct l ∧ Ct r ∧ eqq w w = true ∧ ht l ≤ ht r + 1 ∧ ht r ≤ ht l + 1 := by
  obtain ⟨h1, ⟨h2, h3, h4, h5⟩, h6⟩ := h
  obtain ⟨g1, g2, g3⟩ := h1.sides
  exact ⟨⟨g1, h2, fun p hp => h6 p (by simp [ino, hp])⟩, ⟨g2, h3, fun p hp => h6 p (by simp [ino, hp])⟩, h6 (k, w) (by simp [ino]), h4, h5⟩
theorem eqq_tr : ∀ (t : Tr D), (∀ p ∈ ino t, eqq p.2 p.2 = true) → eqq (trD t) (trD t) = true
  | nil, _ => by simp
  | nd l k w r, h => by
    have h1 := eqq_tr l fun p hp => h p (by simp [ino, hp])
    have h2 := eqq_tr r fun p hp => h p (by simp [ino, hp])
    have h3 := h (k, w) (by simp [ino])
    obtain ⟨H, N, et⟩ := trD_nd l k w r
    rw [et]
    simp [h1, h2, h3]
def msz : List (Tr D) → Nat
  | [] => 0
  | t :: st => 2 * cnt t + 1 + msz st
theorem msz_len : ∀ st : List (Tr D), st.length ≤ msz st
  | [] => by simp [msz]
  | t :: st => by have := msz_len st; simp [msz]; omega
theorem cut6 (a b c d e f : D) : cutD [a, b, c, d, e, f] none (some 6) = [a, b, c, d, e, f] := rfl
theorem look_while (o0 o4 o5 o6 o7 : Option M) : ∀ (N : Nat) (st : List (Tr D)) (num : Int) (o3 : Option M), msz st < N → msz st ≤ 1000 → (∀ s ∈ st, Ct s) →
    ∃ num' o3', vWhile (v_look_c1 V_node V_height V_pairs) (v_look_b1 V_node V_height V_pairs) N ⟨[o0, some (.lst ((stk st).map M.val)), some (.val (.int num)), o3, o4, o5, o6, o7], []⟩ = .nx ⟨[o0, some (.lst []), some (.val (.int num')), o3', o4, o5, o6, o7], []⟩
  | 0, st, num, o3, h, _, _ => by omega
  | N + 1, st, num, o3, h, hb, hC => by
    rw [vWhile_succ]
    have hne := stk_ne (st := st) fun s hs => (hC s hs).1
    cases st with
    | nil =>
      refine ⟨num, o3, ?_⟩
      have e0 : stk [] = [] := rfl
      rw [e0]
      unfold v_look_c1
      simp
    | cons t st =>
      have hs : decide (t :: st = []) = false := by simp
      rw [hs] at hne
      have hc : v_look_c1 V_node V_height V_pairs ⟨[o0, some (.lst ((stk (t :: st)).map M.val)), some (.val (.int num)), o3, o4, o5, o6, o7], []⟩ = .ok true ⟨[o0, some (.lst ((stk (t :: st)).map M.val)), some (.val (.int num)), o3, o4, o5, o6, o7], []⟩ := by
        unfold v_look_c1
        generalize stk (t :: st) = xs at *
        simp [-gNe_g, hne]
      rw [hc, tv_ok, if_pos rfl, stk_cons]
      simp only [msz] at h hb
      have hml := msz_len st
      cases t with
      | nil =>
        obtain ⟨num', o3', ih⟩ := look_while o0 o4 o5 o6 o7 N st num (some (.val .non)) (by simp only [cnt] at h; omega) (by omega) (fun s hs => hC s (by simp [hs]))
        refine ⟨num', o3', ?_⟩
        have hb1 : v_look_b1 V_node V_height V_pairs ⟨[o0, some (.lst ((stk st ++ [trD nil]).map M.val)), some (.val (.int num)), o3, o4, o5, o6, o7], []⟩ = .nx ⟨[o0, some (.lst ((stk st).map M.val)), some (.val (.int num)), some (.val .non), o4, o5, o6, o7], []⟩ := by
          unfold v_look_b1
          generalize stk st = xs at *
          simp [V_pop_snoc]
        rw [hb1, turnV_nx, ih]
      | nd l k w r =>
        have hct := hC (nd l k w r) (by simp)
        obtain ⟨c1, c2, c3, c4, c5⟩ := hct.sides
        obtain ⟨num', o3', ih⟩ := look_while o0 o4 o5 o6 o7 N (l :: r :: st) (num + 1) (some (.val (trD (nd l k w r)))) (by simp only [msz, cnt] at h ⊢; omega) (by simp only [msz, cnt] at hb ⊢; omega) (fun s hs => by
          rcases List.mem_cons.mp hs with rfl | hs
          · exact c1
          · rcases List.mem_cons.mp hs with rfl | hs
            · exact c2
            · exact hC s (by simp [hs]))
        refine ⟨num', o3', ?_⟩
        rw [stk_cons, stk_cons] at ih
        have en := V_node_eq l k w r
        have g1 := gud_tr (nd l k w r) 64 (by have := hct.1.1; omega) hct.1.2
        have g2 := eqq_tr (nd l k w r) hct.2.2
        have hx : (stk st).length ≤ 1000 := by rw [stk_len]; omega
        have ea : ¬ (1 : Int) < (if ((ht l : Int) - (ht r : Int)) < 0 then -((ht l : Int) - (ht r : Int)) else ((ht l : Int) - (ht r : Int))) := by split <;> omega
        have gA : gAbs [.int ((ht l : Int) - (ht r : Int))] [] = some (.int (if ((ht l : Int) - (ht r : Int)) < 0 then -((ht l : Int) - (ht r : Int)) else ((ht l : Int) - (ht r : Int))), []) := rfl
        generalize (if ((ht l : Int) - (ht r : Int)) < 0 then -((ht l : Int) - (ht r : Int)) else ((ht l : Int) - (ht r : Int))) = AB at *
        have hl' := V_height_eq l
        have hr' := V_height_eq r
        have hb1 : v_look_b1 V_node V_height V_pairs ⟨[o0, some (.lst ((stk st ++ [trD (nd l k w r)]).map M.val)), some (.val (.int num)), o3, o4, o5, o6, o7], []⟩ = .nx ⟨[o0, some (.lst ((stk st ++ [trD r] ++ [trD l]).map M.val)), some (.val (.int (num + 1))), some (.val (trD (nd l k w r))), o4, o5, o6, o7], []⟩ := by
          obtain ⟨H, NN, et⟩ := trD_nd l k w r
          have gN : gNe (trD (nd l k w r)) (trD (nd l k w r)) [] = some (.bl false, []) := by rw [gNe_g g1 g1, g2]; rfl
          rw [et] at gN en ⊢
          clear g1 g2 ih
          unfold v_look_b1
          generalize stk st = xs at *
          generalize trD l = TL at *
          generalize trD r = TR at *
          have hx2 : xs.length + 2 ≤ 1000000 := by omega
          have ev := V_ext_val (xs.map M.val) [TR, TL] (by simp; omega)
          simp [-gNe_g, V_pop_snoc, cut6, en, gN, hl', hr', gA, ea, ev]
        rw [hb1, turnV_nx, ih]
end Law

namespace Law
open PySem L2 PF VF Avl Avl.Tr
variable [Tab]
theorem lc_look (o0 o1 o2 o3 o4 o5 : Option M) : ∀ (ps : List (Int × D)) (acc : List M), acc.length + ps.length < 1000 → lcP (tPair 6 7) vYes (vVar 6) ⟨[o0, o1, o2, o3, o4, o5, none, none], []⟩ (ps.map pD) acc = some (acc ++ iM (ps.map (·.1)))
  | [], acc, _ => by simp [lcP, iM]
  | p :: ps, acc, h => by
    have ih := lc_look o0 o1 o2 o3 o4 o5 ps (acc ++ [.val (.int p.1)]) (by simp at h ⊢; omega)
    have hl : acc.length < 1000000 := by simp at h; omega
    simp only [List.map_cons, lcP, pD, tPair_eq, put_eq, List.set_cons_succ, List.set_cons_zero, vYes_eq, vVar_eq]
    simp only [List.getElem?_cons_succ, List.getElem?_cons_zero, getO_some, isV_val, if_pos hl]
    have ih : lcP (tPair 6 7) vYes (vVar 6) ⟨[o0, o1, o2, o3, o4, o5, none, none], []⟩ (List.map (fun p => D.tup [.int p.1, p.2]) ps) (acc ++ [.val (.int p.1)]) = _ := ih
    show lcP _ _ _ _ (ps.map pD) _ = _
    rw [show ps.map pD = ps.map (fun p => D.tup [.int p.1, p.2]) from rfl, ih]
    simp [iM]
theorem lc_keys (o0 : Option M) : ∀ (ps : List (Int × D)) (acc : List M), acc.length + ps.length < 1000 → lcP (tPair 1 2) vYes (vVar 1) ⟨[o0, none, none], []⟩ (ps.map pD) acc = some (acc ++ iM (ps.map (·.1)))
  | [], acc, _ => by simp [lcP, iM]
  | p :: ps, acc, h => by
    have ih := lc_keys o0 ps (acc ++ [.val (.int p.1)]) (by simp at h ⊢; omega)
    have hl : acc.length < 1000000 := by simp at h; omega
    simp only [List.map_cons, lcP, pD, tPair_eq, put_eq, List.set_cons_succ, List.set_cons_zero, vYes_eq, vVar_eq]
    simp only [List.getElem?_cons_succ, List.getElem?_cons_zero, getO_some, isV_val, if_pos hl]
    show lcP _ _ _ _ (ps.map pD) _ = _
    rw [ih]
    simp [iM]
theorem len_ok {t : Tr D} (h : OkT t) : (ino t).length ≤ 27 := by
  have hl := len_up (lo := -13) (hi := 13) h.1.2 fun p hp => ⟨(h.2 p hp).1, (h.2 p hp).2.1⟩
  omega
theorem cnt_len : ∀ t : Tr D, cnt t = (ino t).length
  | nil => rfl
  | nd l k w r => by simp only [cnt, ino, List.length_append, List.length_cons, cnt_len l, cnt_len r]; omega
theorem V_look_ok {t : Tr D} (h : OkT t) : ∃ os, V_look [.val (trD t)] = .ok (.val .non) os := by
  have hl := len_ok h
  have hh := okT_ht h
  have hC : Ct t := ⟨⟨by omega, fun p hp => (h.2 p hp).2.2.2.1⟩, h.1.1, fun p hp => (h.2 p hp).2.2.2.2⟩
  obtain ⟨num, o3, e1⟩ := look_while (some (.val (trD t))) none none none none 100000 [t] 0 none (by simp only [msz, cnt_len]; omega) (by simp only [msz, cnt_len]; omega) (by simpa using hC)
  have e0 : stk [t] = [trD t] := rfl
  rw [e0] at e1
  obtain ⟨os, e2⟩ := V_pairs_eq h
  have e3 := lc_look (some (.val (trD t))) (some (.lst [])) (some (.val (.int num))) o3 none none (ino t) [] (by simp; omega)
  rw [List.nil_append] at e3
  have hk : keysT t = (ino t).map (·.1) := rfl
  rw [← hk] at e3
  have hkl : (keysT t).length ≤ 27 := by rw [hk]; simpa using hl
  have hup := keys_up h.1
  generalize keysT t = ks at *
  generalize (ino t).map pD = PP at *
  have hr : rngOk ((ks.length : Int) - 1) = true := rngOk_of (by omega) (by omega)
  obtain ⟨e', f1, o5', f2⟩ := for_rng (i := 5) (b := v_look_b2 V_node V_height V_pairs) (fun k e => ∃ o5, e = (⟨[some (.val (trD t)), some (.lst []), some (.val (.int num)), o3, some (.val (.lst (ks.map D.int))), o5, none, none], []⟩ : VF.Env)) ((ks.length : Int) - 1).toNat 0 ⟨[some (.val (trD t)), some (.lst []), some (.val (.int num)), o3, some (.val (.lst (ks.map D.int))), none, none, none], []⟩ ⟨_, rfl⟩ (by
    rintro k e hk0 hk1 ⟨o5, rfl⟩
    obtain ⟨j, rfl⟩ : ∃ j : Nat, k = j := ⟨k.toNat, by omega⟩
    have hj : j + 1 < ks.length := by omega
    have g1 : ks[j]? = some ks[j] := List.getElem?_eq_getElem (by omega)
    have g2 : ks[j + 1]? = some ks[j + 1] := List.getElem?_eq_getElem hj
    have lt := List.pairwise_iff_getElem.mp hup j (j + 1) (by omega) hj (by omega)
    generalize ks[j] = x at *
    generalize ks[j + 1] = y at *
    have a1 : atI (ks.map D.int) (j : Int) = some (.int x) := by rw [atI_cast]; simp [g1]
    have a2 : atI (ks.map D.int) ((j : Int) + 1) = some (.int y) := by
      have := atI_cast (ks.map D.int) (j + 1)
      rw [show ((j : Int) + 1) = ((j + 1 : Nat) : Int) by omega, this]; simp [g2]
    have nle : ¬ y ≤ x := by omega
    refine ⟨⟨[some (.val (trD t)), some (.lst []), some (.val (.int num)), o3, some (.val (.lst (ks.map D.int))), some (.val (.int (j : Int))), none, none], []⟩, .inl ?_, ⟨_, rfl⟩⟩
    generalize ks.map D.int = kd at *
    unfold v_look_b2
    simp [-atI_nat', a1, a2, nle])
  subst f2
  rw [show ((ks.length : Int) - 1).toNat = ks.length - 1 by omega] at f1
  unfold V_look v_look
  generalize trD t = T at *
  refine ex_ok ?_
  simp only [List.map_cons, List.map_nil] at e1
  simp [e1, e2, e3, hr, f1]
theorem V_keys_eq {t : Tr D} (h : OkT t) : ∃ os, V__law_keys [.val (trD t)] = .ok (.val (.lst ((keysT t).map D.int))) os := by
  have hl := len_ok h
  obtain ⟨o1, e1⟩ := V_look_ok h
  obtain ⟨o2, e2⟩ := V_pairs_eq h
  have e3 := lc_keys (some (.val (trD t))) (ino t) [] (by simp; omega)
  rw [List.nil_append] at e3
  have hk : keysT t = (ino t).map (·.1) := rfl
  rw [← hk] at e3
  generalize keysT t = ks at *
  generalize (ino t).map pD = PP at *
  generalize trD t = T at *
  unfold V__law_keys v__law_keys
  exact ex_ok (by simp [e1, e2, e3])
/-- a tree of drawn keys -/
theorem good_x {k : Int} (h0 : -13 ≤ k) (h1 : k ≤ 13) : goodP (k, .str "x") := ⟨h0, h1, rfl, fun n => by simp; decide +kernel, by simp⟩
theorem okT_put {t : Tr D} (h : OkT t) {k : Int} {w : D} (hg : goodP (k, w)) : OkT (putT t k w) :=
  ⟨snd_put h.1 k w, fun p hp => by
    rcases (mem_put h.1 k w p).mp hp with rfl | ⟨e, _⟩
    · exact hg
    · exact h.2 p e⟩
theorem okT_nil : OkT nil := ⟨⟨trivial, List.Pairwise.nil⟩, by simp [ino]⟩
theorem tree_for (C : Addr) (o0 : Option M) : ∀ (ns : List Int) (t : Tr D) (o2 : Option M), (∀ x ∈ ns, -12 ≤ x ∧ x ≤ 12) → OkT t → ∃ t' o2', OkT t' ∧ forI (tName 2) (v__law_tree_b1 (V_put C 40)) (ns.map D.int) ⟨[o0, some (.val (trD t)), o2], []⟩ = .nx ⟨[o0, some (.val (trD t')), o2'], []⟩
  | [], t, o2, _, h => ⟨t, o2, h, rfl⟩
  | n :: ns, t, o2, hn, h => by
    have hb := hn n (by simp)
    have hh := okT_ht h
    obtain ⟨os, e⟩ := V_put_eq C n (.str "x") ⟨by omega, by omega⟩ t 40 (by omega)
    obtain ⟨t', o2', h1, h2⟩ := tree_for C o0 ns (putT t n (.str "x")) (some (.val (.int n))) (fun x hx => hn x (by simp [hx])) (okT_put h (good_x (by omega) (by omega)))
    refine ⟨t', o2', h1, ?_⟩
    rw [List.map_cons, forI_name, ← h2]
    generalize V_put C 40 = VP at *
    have b : v__law_tree_b1 VP ⟨[o0, some (.val (trD t)), some (.val (.int n))], []⟩ = .nx ⟨[o0, some (.val (trD (putT t n (.str "x")))), some (.val (.int n))], []⟩ := by
      unfold v__law_tree_b1
      simp [e]
    simp only [put_eq, List.set_cons_succ, List.set_cons_zero]
    rw [b, turnV_nx]
theorem V_tree_eq (C : Addr) (ns : List Int) (hn : ∀ x ∈ ns, -12 ≤ x ∧ x ≤ 12) : ∃ t os, OkT t ∧ V__law_tree C [.val (.lst (ns.map D.int))] = .ok (.val (trD t)) os := by
  obtain ⟨t, o2, h1, h2⟩ := tree_for C (some (.val (.lst (ns.map D.int)))) ns nil none hn okT_nil
  rw [trD_nil] at h2
  unfold V__law_tree v__law_tree
  generalize V_put C 40 = VP at *
  obtain ⟨os, e⟩ : ∃ os, runV 1 3 (vSeq (vAsg (vC .non) (tName 1)) (vSeq (vFor (viSeq (vVar 0)) (tName 2) (v__law_tree_b1 VP)) (vRet (vVar 1)))) [.val (.lst (ns.map D.int))] = .ok (.val (trD t)) os := ex_ok (by simp [h2])
  exact ⟨t, os, h1, e⟩
end Law

namespace Law
open PySem L2 PF VF Avl Avl.Tr
variable [Tab]
/-- an expression that tells a sound tree -/
structure Ev (E : VE) (o : List (Option M)) (t : Tr D) : Prop where
  ok : OkT t
  e : E ⟨o, []⟩ = .ok (.val (trD t)) ⟨o, []⟩
theorem ev_var {o : List (Option M)} {i : Nat} {t : Tr D} (h : OkT t) (hi : o[i]? = some (some (.val (trD t)))) : Ev (vVar i) o t := ⟨h, by simp [hi]⟩
section
variable {E1 E2 : VE} {o : List (Option M)} {s t : Tr D}
theorem ev_uni (h1 : Ev E1 o s) (h2 : Ev E2 o t) : Ev (vCallV (V_put_together 40) (vCons E1 (vCons E2 (vNil)))) o (uniT s t) := by
  have := okT_ht h1.ok
  obtain ⟨os, e⟩ := V_uni_eq s t 40 h1.ok h2.ok (by omega)
  refine ⟨okT_uni h1.ok h2.ok, ?_⟩
  generalize V_put_together 40 = VV at *
  simp [h1.e, h2.e, e]
theorem ev_int (h1 : Ev E1 o s) (h2 : Ev E2 o t) : Ev (vCallV (V_shared 40) (vCons E1 (vCons E2 (vNil)))) o (intT s t) := by
  have := okT_ht h1.ok
  obtain ⟨os, e⟩ := V_int_eq s t 40 h1.ok h2.ok (by omega)
  refine ⟨okT_int h1.ok h2.ok, ?_⟩
  generalize V_shared 40 = VV at *
  simp [h1.e, h2.e, e]
theorem ev_dif (h1 : Ev E1 o s) (h2 : Ev E2 o t) : Ev (vCallV (V_less 40) (vCons E1 (vCons E2 (vNil)))) o (difT s t) := by
  have := okT_ht h2.ok
  obtain ⟨os, e⟩ := V_dif_eq t s 40 h1.ok h2.ok (by omega)
  refine ⟨okT_dif h1.ok h2.ok, ?_⟩
  generalize V_less 40 = VV at *
  simp [h1.e, h2.e, e]
theorem ev_keys (h1 : Ev E1 o s) : vCallV V__law_keys (vCons E1 (vNil)) ⟨o, []⟩ = .ok (.val (.lst ((keysT s).map D.int))) ⟨o, []⟩ := by
  obtain ⟨os, e⟩ := V_keys_eq h1.ok
  generalize V__law_keys = VV at *
  simp [h1.e, e]
theorem ne_keys (h1 : Ev E1 o s) (h2 : Ev E2 o t) (h : ∀ x, Has s x ↔ Has t x) : vTst (vOp gNe (vCallV V__law_keys (vCons E1 (vNil))) (vCallV V__law_keys (vCons E2 (vNil)))) ⟨o, []⟩ = .ok false ⟨o, []⟩ := by
  have hk := keys_eq h1.ok.1 h2.ok.1 h
  rw [vTst_eq, vOp_eq, ev_keys h1, bv_ok, ev_keys h2, bv_ok, hk]
  simp
theorem nil_keys (h1 : Ev E1 o s) (h : ∀ x, ¬ Has s x) : vTst (vOp gNe (vCallV V__law_keys (vCons E1 (vNil))) (vLst (vNil))) ⟨o, []⟩ = .ok false ⟨o, []⟩ := by
  have hk : keysT s = [] := by
    cases hh : keysT s with
    | nil => rfl
    | cons x xs => exact absurd (mem_keys.mp (by rw [hh]; simp)) (h x)
  rw [vTst_eq, vOp_eq, ev_keys h1, bv_ok, hk]
  simp
end
/-- split -/
theorem spl_keys {t : Tr D} (h : OkT t) (k : Int) : (keysT (splT t k).1 ++ ((if (splT t k).2.1.isSome then [k] else []) ++ keysT (splT t k).2.2)) = keysT t := by
  obtain ⟨s1, s2⟩ := snd_spl h.1 k
  have m1 : ∀ x, Has (splT t k).1 x ↔ Has t x ∧ x < k := fun x => by
    constructor
    · rintro ⟨p, hp, rfl⟩; obtain ⟨a, b⟩ := (mem_lo h.1 k p).mp hp; exact ⟨⟨p, a, rfl⟩, b⟩
    · rintro ⟨⟨p, hp, rfl⟩, c⟩; exact ⟨p, (mem_lo h.1 k p).mpr ⟨hp, c⟩, rfl⟩
  have m2 : ∀ x, Has (splT t k).2.2 x ↔ Has t x ∧ k < x := fun x => by
    constructor
    · rintro ⟨p, hp, rfl⟩; obtain ⟨a, b⟩ := (mem_hi h.1 k p).mp hp; exact ⟨⟨p, a, rfl⟩, b⟩
    · rintro ⟨⟨p, hp, rfl⟩, c⟩; exact ⟨p, (mem_hi h.1 k p).mpr ⟨hp, c⟩, rfl⟩
  obtain ⟨_, _, g3, g4⟩ := ino_spl k t h.1.2
  have l1 : ∀ x ∈ keysT (splT t k).1, x < k := fun x hx => ((m1 x).mp (mem_keys.mp hx)).2
  have l2 : ∀ x ∈ keysT (splT t k).2.2, k < x := fun x hx => ((m2 x).mp (mem_keys.mp hx)).2
  refine up_uniq ?_ (keys_up h.1) fun x => ?_
  · refine List.pairwise_append.mpr ⟨keys_up s1, List.pairwise_append.mpr ⟨?_, keys_up s2, ?_⟩, ?_⟩
    · split <;> simp
    · intro a ha b hb
      split at ha
      · simp at ha; subst ha; exact l2 b hb
      · cases ha
    · intro a ha b hb
      have := l1 a ha
      rcases List.mem_append.mp hb with q | q
      · split at q
        · simp at q; omega
        · cases q
      · have := l2 b q; omega
  · simp only [List.mem_append, mem_keys, m1, m2]
    cases hb : (splT t k).2.1 with
    | none =>
      have hn := g4.mp hb
      simp
      constructor
      · rintro (⟨a, _⟩ | ⟨a, _⟩) <;> exact a
      · intro a
        obtain ⟨p, hp, rfl⟩ := id a
        have := hn p hp
        rcases Int.lt_trichotomy p.1 k with c | c | c
        · exact .inl ⟨a, c⟩
        · exact absurd c this
        · exact .inr ⟨a, c⟩
    | some w =>
      have hw := (g3 w).mp hb
      simp
      constructor
      · rintro (⟨a, _⟩ | rfl | ⟨a, _⟩)
        · exact a
        · exact ⟨_, hw, rfl⟩
        · exact a
      · intro a
        rcases Int.lt_trichotomy x k with c | c | c
        · exact .inl ⟨a, c⟩
        · exact .inr (.inl c)
        · exact .inr (.inr ⟨a, c⟩)
theorem spl_sep {t : Tr D} (h : OkT t) (k : Int) : (∀ q ∈ ino (splT t k).1, q.1 < k) ∧ (∀ q ∈ ino (splT t k).2.2, k < q.1) :=
  ⟨fun q hq => ((mem_lo h.1 k q).mp hq).2, fun q hq => ((mem_hi h.1 k q).mp hq).2⟩
theorem opt_non {t : Tr D} (h : OkT t) (k : Int) : isNon (optD (splT t k).2.1) = !(splT t k).2.1.isSome := by
  obtain ⟨_, _, g3, _⟩ := ino_spl k t h.1.2
  cases hb : (splT t k).2.1 with
  | none => rfl
  | some w => exact (h.2 _ ((g3 w).mp hb)).2.2.1
theorem mul_b {o : List (Option M)} {k : Int} {E : VE} {c : Bool} (h7 : o[7]? = some (some (.val (.int k)))) (hE : E ⟨o, []⟩ = .ok (.val (.bl c)) ⟨o, []⟩) :
    vOp (gMul false) (vLst (vCons (vVar 7) (vNil))) (vCB gInt (vCons E (vNil))) ⟨o, []⟩ = .ok (.val (.lst ((if c then [k] else []).map D.int))) ⟨o, []⟩ := by
  have e1 : vLst (vCons (vVar 7) (vNil)) ⟨o, []⟩ = .ok (.val (.lst [.int k])) ⟨o, []⟩ := by simp [h7]
  cases c with
  | false =>
    have e2 : vCB gInt (vCons E (vNil)) ⟨o, []⟩ = .ok (.val (.int ((0 : Nat) : Int))) ⟨o, []⟩ := by rw [vCB_eq, vCons_eq, hE]; rfl
    rw [vOp_eq, e1, bv_ok, e2, bv_ok, liftG_val, mul1 _ _ (by decide)]
    rfl
  | true =>
    have e2 : vCB gInt (vCons E (vNil)) ⟨o, []⟩ = .ok (.val (.int ((1 : Nat) : Int))) ⟨o, []⟩ := by rw [vCB_eq, vCons_eq, hE]; rfl
    rw [vOp_eq, e1, bv_ok, e2, bv_ok, liftG_val, mul1 _ _ (by decide)]
    rfl
theorem isort_mid {A B : List Int} {k : Int} (h : (A ++ k :: B).Pairwise (· < ·)) : isort (A ++ B ++ [k]) = A ++ k :: B := by
  refine sorted_unique ((isort_perm _).trans ?_) (isort_sorted _) (h.imp fun q => Int.le_of_lt q)
  rw [List.append_assoc]
  refine List.Perm.append_left A ?_
  exact List.perm_append_comm
theorem isort_up {A : List Int} (h : A.Pairwise (· < ·)) : isort A = A := sorted_unique (isort_perm _) (isort_sorted _) (h.imp fun q => Int.le_of_lt q)
end Law

namespace Law
open PySem L2 PF VF Avl Avl.Tr
variable [Tab]
theorem three {ys : List M} (hl : ys.length = 3) (h : ∀ y ∈ ys, ∃ t, OkT t ∧ y = .val (trD t)) : ∃ a b c, OkT a ∧ OkT b ∧ OkT c ∧ ys = [.val (trD a), .val (trD b), .val (trD c)] := by
  match ys, hl with
  | [x, y, z], _ =>
    obtain ⟨a, h1, rfl⟩ := h x (by simp)
    obtain ⟨b, h2, rfl⟩ := h y (by simp)
    obtain ⟨c, h3, rfl⟩ := h z (by simp)
    exact ⟨a, b, c, h1, h2, h3, rfl⟩
theorem ite_no {o : List (Option M)} {c : VT} (h : c ⟨o, []⟩ = .ok false ⟨o, []⟩) : vIte c (vRet (vC (.bl false))) (vNext) ⟨o, []⟩ = .nx ⟨o, []⟩ := by rw [vIte_eq, h]; rfl
theorem or_no {o : List (Option M)} {c d : VT} (h : c ⟨o, []⟩ = .ok false ⟨o, []⟩) (h2 : d ⟨o, []⟩ = .ok false ⟨o, []⟩) : vOrT c d ⟨o, []⟩ = .ok false ⟨o, []⟩ := by rw [vOrT_eq, h, bv_ok, if_neg (by decide), h2]
theorem round (C : Addr) (o : List (Option M)) (x y z : Int) (hL : o.length = 12) (h1 : o[1]? = some (some (dM x y z))) :
    ∃ o', o'.length = 12 ∧ v_law_b1 V__law_rounds (V__law_tree C) V__law_row (V_shared 40) (V_put_together 40) V__law_keys (V_less 40) V__law_roll (V_split 40) (V_joined 40) ⟨o, []⟩ = .nx ⟨o', []⟩ := by
  have hD : ∃ a b c, o[1]? = some (some (dM a b c)) := ⟨x, y, z, h1⟩
  clear h1
  unfold v_law_b1
  obtain ⟨ys, oA, hyl, hys, sA, eA⟩ := Sm.turns (p := 1) (js := [1, 11]) (o := o) (i := 11) (f := vCallV (V__law_tree C) (vCons (vCall V__law_row (wPl (pVar 1) (wTm (vC (.int 10)) (wTm (vC (.int 12)) (wNil))))) (vNil))) (fun y => ∃ t, OkT t ∧ y = .val (trD t)) (by decide) (by decide) (fun d o1 hs => by
    obtain ⟨ns, o2, q1, q2, q3, q4⟩ := (hs.set (i := 11) (x := some (.val d)) (by decide) (by decide)).row (by decide) (most := 10) (wide := 12) (va := vC (.int 10)) (vb := vC (.int 12)) rfl rfl (by decide) (by decide)
    obtain ⟨t, os, hT, eT⟩ := V_tree_eq C ns (fun q hq => by have := q2 q hq; omega)
    refine ⟨.val (trD t), o2, ?_, ⟨t, hT, rfl⟩, q3⟩
    generalize V__law_tree C = VT at *
    rw [vCallV_eq, vCons_eq, q4]
    simp [eT]) (rgD 0 3) (by decide) ((Sm.refl hD).set (i := 11) (x := none) (by decide) (by decide))
  obtain ⟨a, b, c, ha, hb, hc, rfl⟩ := three (by rw [hyl]; rfl) hys
  have sA2 := sA.set (i := 11) (x := none) (by decide) (by decide)
  have g0 : vLcE [11] (viRng (vCons (vC (.int 3)) (vNil))) (tName 11) (vYes) (vCallV (V__law_tree C) (vCons (vCall V__law_row (wPl (pVar 1) (wTm (vC (.int 10)) (wTm (vC (.int 12)) (wNil))))) (vNil))) frzM ⟨o, []⟩ = .ok (.val (.lst [trD a, trD b, trD c])) ⟨oA.set 11 none, []⟩ := by
    have hr : rngOk 3 = true := rngOk_of (by decide) (by decide)
    generalize (vCallV (V__law_tree C) (vCons (vCall V__law_row (wPl (pVar 1) (wTm (vC (.int 10)) (wTm (vC (.int 12)) (wNil))))) (vNil))) = FF at *
    simp [vLcE, hr, eA]
  refine seq_step (((((oA.set 11 none)).set 2 (some (.val (trD a)))).set 3 (some (.val (trD b)))).set 4 (some (.val (trD c)))) (by rw [vAsg_eq, g0, tv_ok]; simp) ?_
  have L1 : (((((oA.set 11 none)).set 2 (some (.val (trD a)))).set 3 (some (.val (trD b)))).set 4 (some (.val (trD c)))).length = 12 := (klen (klen (klen (sA2.len.trans hL))))
  have D1 : ∃ da db dc, (((((oA.set 11 none)).set 2 (some (.val (trD a)))).set 3 (some (.val (trD b)))).set 4 (some (.val (trD c))))[1]? = some (some (dM da db dc)) := (dset (dset (dset sA2.di (by decide)) (by decide)) (by decide))
  have k1_2 : (((((oA.set 11 none)).set 2 (some (.val (trD a)))).set 3 (some (.val (trD b)))).set 4 (some (.val (trD c))))[2]? = some (some (.val (trD a))) := (kset (kset (kself (sA2.len.trans hL) (by decide)) (by decide)) (by decide))
  have k1_3 : (((((oA.set 11 none)).set 2 (some (.val (trD a)))).set 3 (some (.val (trD b)))).set 4 (some (.val (trD c))))[3]? = some (some (.val (trD b))) := (kset (kself (klen (sA2.len.trans hL)) (by decide)) (by decide))
  have k1_4 : (((((oA.set 11 none)).set 2 (some (.val (trD a)))).set 3 (some (.val (trD b)))).set 4 (some (.val (trD c))))[4]? = some (some (.val (trD c))) := (kself (klen (klen (sA2.len.trans hL))) (by decide))
  generalize ((((oA.set 11 none)).set 2 (some (.val (trD a)))).set 3 (some (.val (trD b)))).set 4 (some (.val (trD c))) = o1 at L1 D1 k1_2 k1_3 k1_4 ⊢
  have va := ev_var ha k1_2
  have vb := ev_var hb k1_3
  have vc := ev_var hc k1_4
  have vu := ev_uni va vb
  have vi := ev_int va vb
  refine seq_step (((o1).set 5 (some (.val (trD (uniT a b))))).set 6 (some (.val (trD (intT a b))))) (by rw [vPar_eq, vCons_eq, vu.e, bv_ok, vCons_eq, vi.e, bv_ok]; rfl) ?_
  have L2 : (((o1).set 5 (some (.val (trD (uniT a b))))).set 6 (some (.val (trD (intT a b))))).length = 12 := (klen (klen L1))
  have D2 : ∃ da db dc, (((o1).set 5 (some (.val (trD (uniT a b))))).set 6 (some (.val (trD (intT a b)))))[1]? = some (some (dM da db dc)) := (dset (dset D1 (by decide)) (by decide))
  have k2_2 : (((o1).set 5 (some (.val (trD (uniT a b))))).set 6 (some (.val (trD (intT a b)))))[2]? = some (some (.val (trD a))) := (kset (kset k1_2 (by decide)) (by decide))
  have k2_3 : (((o1).set 5 (some (.val (trD (uniT a b))))).set 6 (some (.val (trD (intT a b)))))[3]? = some (some (.val (trD b))) := (kset (kset k1_3 (by decide)) (by decide))
  have k2_4 : (((o1).set 5 (some (.val (trD (uniT a b))))).set 6 (some (.val (trD (intT a b)))))[4]? = some (some (.val (trD c))) := (kset (kset k1_4 (by decide)) (by decide))
  have k2_5 : (((o1).set 5 (some (.val (trD (uniT a b))))).set 6 (some (.val (trD (intT a b)))))[5]? = some (some (.val (trD (uniT a b)))) := (kset (kself L1 (by decide)) (by decide))
  have k2_6 : (((o1).set 5 (some (.val (trD (uniT a b))))).set 6 (some (.val (trD (intT a b)))))[6]? = some (some (.val (trD (intT a b)))) := (kself (klen L1) (by decide))
  generalize ((o1).set 5 (some (.val (trD (uniT a b))))).set 6 (some (.val (trD (intT a b)))) = o2 at L2 D2 k2_2 k2_3 k2_4 k2_5 k2_6 ⊢
  clear va vb vc vu vi
  have va := ev_var ha k2_2
  have vb := ev_var hb k2_3
  have vc := ev_var hc k2_4
  have vu := ev_var (okT_uni ha hb) k2_5
  have vi := ev_var (okT_int ha hb) k2_6
  refine seq_step o2 (ite_no (or_no (ne_keys vu (ev_uni vb va) fun x => by simp only [has_uni ha.1 hb.1, has_uni hb.1 ha.1]; by_cases p : Has a x <;> by_cases q : Has b x <;> by_cases r : Has c x <;> simp [p, q, r]) (ne_keys vi (ev_int vb va) fun x => by simp only [has_int ha.1 hb.1, has_int hb.1 ha.1]; by_cases p : Has a x <;> by_cases q : Has b x <;> by_cases r : Has c x <;> simp [p, q, r]))) ?_
  refine seq_step o2 (ite_no (ne_keys (ev_uni vu vc) (ev_uni va (ev_uni vb vc)) fun x => by simp only [has_uni (okT_uni ha hb).1 hc.1, has_uni ha.1 hb.1, has_uni ha.1 (okT_uni hb hc).1, has_uni hb.1 hc.1]; by_cases p : Has a x <;> by_cases q : Has b x <;> by_cases r : Has c x <;> simp [p, q, r])) ?_
  refine seq_step o2 (ite_no (ne_keys (ev_int vi vc) (ev_int va (ev_int vb vc)) fun x => by simp only [has_int (okT_int ha hb).1 hc.1, has_int ha.1 hb.1, has_int ha.1 (okT_int hb hc).1, has_int hb.1 hc.1]; by_cases p : Has a x <;> by_cases q : Has b x <;> by_cases r : Has c x <;> simp [p, q, r])) ?_
  refine seq_step o2 (ite_no (ne_keys (ev_int va (ev_uni vb vc)) (ev_uni vi (ev_int va vc)) fun x => by simp only [has_int ha.1 (okT_uni hb hc).1, has_uni hb.1 hc.1, has_uni (okT_int ha hb).1 (okT_int ha hc).1, has_int ha.1 hb.1, has_int ha.1 hc.1]; by_cases p : Has a x <;> by_cases q : Has b x <;> by_cases r : Has c x <;> simp [p, q, r])) ?_
  refine seq_step o2 (ite_no (ne_keys (ev_dif va (ev_uni vb vc)) (ev_dif (ev_dif va vb) vc) fun x => by simp only [has_dif ha.1 (okT_uni hb hc).1, has_uni hb.1 hc.1, has_dif (okT_dif ha hb).1 hc.1, has_dif ha.1 hb.1]; by_cases p : Has a x <;> by_cases q : Has b x <;> by_cases r : Has c x <;> simp [p, q, r])) ?_
  refine seq_step o2 (ite_no (ne_keys (ev_dif (ev_dif va vb) vb) (ev_dif va vb) fun x => by simp only [has_dif (okT_dif ha hb).1 hb.1, has_dif ha.1 hb.1]; by_cases p : Has a x <;> by_cases q : Has b x <;> by_cases r : Has c x <;> simp [p, q, r])) ?_
  refine seq_step o2 (ite_no (or_no (ne_keys (ev_uni (ev_dif va vb) vi) va fun x => by simp only [has_uni (okT_dif ha hb).1 (okT_int ha hb).1, has_dif ha.1 hb.1, has_int ha.1 hb.1]; by_cases p : Has a x <;> by_cases q : Has b x <;> by_cases r : Has c x <;> simp [p, q, r]) (nil_keys (ev_int (ev_dif va vb) vb) fun x => by simp only [has_int (okT_dif ha hb).1 hb.1, has_dif ha.1 hb.1]; by_cases p : Has a x <;> by_cases q : Has b x <;> simp [p, q]))) ?_
  refine seq_step o2 (ite_no (or_no (ne_keys (ev_uni va va) va fun x => by simp only [has_uni ha.1 ha.1]; by_cases p : Has a x <;> by_cases q : Has b x <;> by_cases r : Has c x <;> simp [p, q, r]) (nil_keys (ev_dif va va) fun x => by simp only [has_dif ha.1 ha.1]; by_cases p : Has a x <;> by_cases q : Has b x <;> simp [p, q]))) ?_
  refine seq_step o2 (ite_no (ne_keys (ev_int va va) va fun x => by simp only [has_int ha.1 ha.1]; by_cases p : Has a x <;> by_cases q : Has b x <;> by_cases r : Has c x <;> simp [p, q, r])) ?_
  clear va vb vc vu vi
  obtain ⟨kr, oB, hk0, hk1, sB, eB⟩ := (Sm.refl (js := [1]) D2).roll (by decide) (n := 27) (va := vC (.int 27)) rfl (by decide) (by decide)
  refine seq_step ((oB).set 7 (some (.val (.int (kr - 13))))) (by rw [vAsg_eq, vOp_eq, eB, bv_ok]; rfl) ?_
  have L3 : ((oB).set 7 (some (.val (.int (kr - 13))))).length = 12 := (klen (sB.len.trans L2))
  have D3 : ∃ da db dc, ((oB).set 7 (some (.val (.int (kr - 13)))))[1]? = some (some (dM da db dc)) := (dset sB.di (by decide))
  have k3_2 : ((oB).set 7 (some (.val (.int (kr - 13)))))[2]? = some (some (.val (trD a))) := (kset (sB.get k2_2 (by decide)) (by decide))
  have k3_7 : ((oB).set 7 (some (.val (.int (kr - 13)))))[7]? = some (some (.val (.int (kr - 13)))) := (kself (sB.len.trans L2) (by decide))
  generalize (oB).set 7 (some (.val (.int (kr - 13)))) = o3 at L3 D3 k3_2 k3_7 ⊢
  obtain ⟨k, hk⟩ : ∃ k, k = kr - 13 := ⟨_, rfl⟩
  rw [← hk] at k3_7
  have hh := okT_ht ha
  obtain ⟨os1, es⟩ := V_spl_eq k a 40 ha (by omega)
  generalize V_split 40 = VS at *
  refine seq_step ((((o3).set 8 (some (.val (trD (splT a k).1)))).set 9 (some (.val (optD (splT a k).2.1)))).set 10 (some (.val (trD (splT a k).2.2)))) (by simp [k3_2, k3_7, es]) ?_
  have L4 : ((((o3).set 8 (some (.val (trD (splT a k).1)))).set 9 (some (.val (optD (splT a k).2.1)))).set 10 (some (.val (trD (splT a k).2.2)))).length = 12 := (klen (klen (klen L3)))
  have D4 : ∃ da db dc, ((((o3).set 8 (some (.val (trD (splT a k).1)))).set 9 (some (.val (optD (splT a k).2.1)))).set 10 (some (.val (trD (splT a k).2.2))))[1]? = some (some (dM da db dc)) := (dset (dset (dset D3 (by decide)) (by decide)) (by decide))
  have k4_2 : ((((o3).set 8 (some (.val (trD (splT a k).1)))).set 9 (some (.val (optD (splT a k).2.1)))).set 10 (some (.val (trD (splT a k).2.2))))[2]? = some (some (.val (trD a))) := (kset (kset (kset k3_2 (by decide)) (by decide)) (by decide))
  have k4_7 : ((((o3).set 8 (some (.val (trD (splT a k).1)))).set 9 (some (.val (optD (splT a k).2.1)))).set 10 (some (.val (trD (splT a k).2.2))))[7]? = some (some (.val (.int k))) := (kset (kset (kset k3_7 (by decide)) (by decide)) (by decide))
  have k4_8 : ((((o3).set 8 (some (.val (trD (splT a k).1)))).set 9 (some (.val (optD (splT a k).2.1)))).set 10 (some (.val (trD (splT a k).2.2))))[8]? = some (some (.val (trD (splT a k).1))) := (kset (kset (kself L3 (by decide)) (by decide)) (by decide))
  have k4_9 : ((((o3).set 8 (some (.val (trD (splT a k).1)))).set 9 (some (.val (optD (splT a k).2.1)))).set 10 (some (.val (trD (splT a k).2.2))))[9]? = some (some (.val (optD (splT a k).2.1))) := (kset (kself (klen L3) (by decide)) (by decide))
  have k4_10 : ((((o3).set 8 (some (.val (trD (splT a k).1)))).set 9 (some (.val (optD (splT a k).2.1)))).set 10 (some (.val (trD (splT a k).2.2))))[10]? = some (some (.val (trD (splT a k).2.2))) := (kself (klen (klen L3)) (by decide))
  generalize (((o3).set 8 (some (.val (trD (splT a k).1)))).set 9 (some (.val (optD (splT a k).2.1)))).set 10 (some (.val (trD (splT a k).2.2))) = o4 at L4 D4 k4_2 k4_7 k4_8 k4_9 k4_10 ⊢
  obtain ⟨ol, oh⟩ := okT_spl ha k
  obtain ⟨sl, sh⟩ := spl_sep ha k
  have va := ev_var ha k4_2
  have vl := ev_var ol k4_8
  have vh := ev_var oh k4_10
  have hsp := spl_keys ha k
  have hno := opt_non ha k
  have hup := keys_up ha.1
  have hgk : goodP (k, .str "x") := good_x (by omega) (by omega)
  have hj := okT_join ol oh sl sh hgk
  obtain ⟨os2, ej⟩ := V_join_eq k (.str "x") 40 (splT a k).1 (splT a k).2.2 (mid_ht ol oh sl sh)
  have n1 : vOp gIsNot (vVar 9) (vC .non) ⟨o4, []⟩ = .ok (.val (.bl (splT a k).2.1.isSome)) ⟨o4, []⟩ := by simp [k4_9, hno]
  have n2 : vOp gIs (vVar 9) (vC .non) ⟨o4, []⟩ = .ok (.val (.bl (!(splT a k).2.1.isSome))) ⟨o4, []⟩ := by simp [k4_9, hno]
  have m1 := mul_b k4_7 n1
  have m2 := mul_b k4_7 n2
  have kl := ev_keys vl
  have kh := ev_keys vh
  have ka := ev_keys va
  have l1 := len_ok ol
  have l2 := len_ok oh
  have l3 := len_ok ha
  have z1 : (keysT (splT a k).1).length ≤ 27 := by simpa [keysT] using l1
  have z2 : (keysT (splT a k).2.2).length ≤ 27 := by simpa [keysT] using l2
  have z3 : (keysT a).length ≤ 27 := by simpa [keysT] using l3
  have vj : Ev (vCallV (V_joined 40) (vCons (vVar 8) (vCons (vVar 7) (vCons (vC (.str "x")) (vCons (vVar 10) (vNil)))))) o4 (joinT (splT a k).1 k (.str "x") (splT a k).2.2) := by
    refine ⟨hj, ?_⟩
    generalize V_joined 40 = VJ at *
    simp [k4_8, k4_7, k4_10, ej]
  have kj := ev_keys vj
  have ek : keysT (joinT (splT a k).1 k (.str "x") (splT a k).2.2) = keysT (splT a k).1 ++ k :: keysT (splT a k).2.2 := by simp [keysT, ino_join]
  have huj := keys_up hj.1
  rw [ek] at kj huj
  generalize (splT a k).2.1.isSome = bo at *
  generalize keysT (splT a k).1 = KL at *
  generalize keysT (splT a k).2.2 = KH at *
  generalize keysT a = KA at *
  have ga : ∀ xs ys : List Int, xs.length + ys.length ≤ 1000 → gAdd false (.lst (xs.map D.int)) (.lst (ys.map D.int)) [] = some (.lst ((xs ++ ys).map D.int), []) := fun xs ys h => by rw [gAdd_lst (by simp; omega), List.map_append]
  have zb : (if bo then [k] else ([] : List Int)).length ≤ 1 := by cases bo <;> simp
  have zb2 : (if (!bo) then [k] else ([] : List Int)).length ≤ 1 := by cases bo <;> simp
  have t1 : vTst (vOp gNe (vOp (gAdd false) (vOp (gAdd false) (vCallV V__law_keys (vCons (vVar 8) (vNil))) (vOp (gMul false) (vLst (vCons (vVar 7) (vNil))) (vCB gInt (vCons (vOp gIsNot (vVar 9) (vC .non)) (vNil))))) (vCallV V__law_keys (vCons (vVar 10) (vNil)))) (vCallV V__law_keys (vCons (vVar 2) (vNil)))) ⟨o4, []⟩ = .ok false ⟨o4, []⟩ := by
    have q1 := ga KL (if bo then [k] else []) (by omega)
    have q2 := ga (KL ++ (if bo then [k] else [])) KH (by simp only [List.length_append]; omega)
    rw [vTst_eq, vOp_eq, vOp_eq, vOp_eq, kl, bv_ok, m1, bv_ok, liftG_val, q1, Option.map_some, ofM_some, bv_ok, kh, bv_ok, liftG_val, q2, Option.map_some, ofM_some, bv_ok, ka, bv_ok, List.append_assoc, hsp]
    simp
  refine seq_step o4 (ite_no t1) ?_
  refine ⟨o4, L4, ite_no ?_⟩
  have q1 := ga KA (if (!bo) then [k] else []) (by omega)
  have q3 : isort (KA ++ (if (!bo) then [k] else [])) = KL ++ k :: KH := by
    cases bo with
    | true =>
      rw [← hsp]
      simpa using isort_up huj
    | false =>
      rw [← hsp]
      simpa using isort_mid huj
  rw [vTst_eq, vOp_eq, kj, bv_ok, vCB_eq, vCons_eq, vOp_eq, ka, bv_ok, m2, bv_ok, liftG_val, q1, Option.map_some, ofM_some, bv_ok]
  generalize KA ++ (if (!bo) then [k] else []) = KK at *
  generalize KL ++ k :: KH = KJ at *
  subst q3
  simp
theorem law_true {K : PySem.W.Frag} {C_BadKey : Addr} (X : Xf K C_BadKey) (ns : List Int) (hl : ns.length ≤ 63) : ∃ os, (V_law C_BadKey) [.val (.scr ns)] = .ok (.val (.bl true)) os := by
  unfold V_law
  obtain ⟨ds, os, h1, h2, h3⟩ := V_rounds_eq ns 3 hl
  obtain ⟨o', g1, g2⟩ := rounds_all (i := 1) (k := 12) (b := v_law_b1 V__law_rounds (V__law_tree C_BadKey) V__law_row (V_shared 40) (V_put_together 40) V__law_keys (V_less 40) V__law_roll (V_split 40) (V_joined 40)) (fun o x y z hl hd => round C_BadKey o x y z hl hd) (by decide) ds ([some (.val (.scr ns))] ++ List.replicate 11 none) h1 rfl
  have h4 : ds.length < 100000 := by omega
  refine ⟨o'.take 1, ?_⟩
  rw [runV_1]
  unfold v_law
  show outV 1 (vSeq _ _ ⟨[some (.val (.scr ns))] ++ List.replicate 11 none, []⟩) = _
  have e1 : vForO (vCallV V__law_rounds (vCons (vVar 0) (vCons (vC (.int 3)) (vNil)))) (tName 1) (v_law_b1 V__law_rounds (V__law_tree C_BadKey) V__law_row (V_shared 40) (V_put_together 40) V__law_keys (V_less 40) V__law_roll (V_split 40) (V_joined 40)) ⟨[some (.val (.scr ns))] ++ List.replicate 11 none, []⟩ = .nx ⟨o', []⟩ := by
    rw [← g2]; simp [h3, h4]
  rw [vSeq_eq, e1]
  rfl
end Law

namespace Law
open PySem L2 PF
variable [Tab]
def topS (i : Nat) : Stmt := PySem.Challenge.pw_heapyard_k04_trees_as_sets.main.body.getD i (.Pass ⟨0, 0, 0, 0⟩)
abbrev st_is_key : Stmt := topS 7
theorem sc_is_key : FnScope ["thing"] ["thing"] (defScope st_is_key) :=
  ⟨rfl, rfl, rfl, by decide +kernel, rfl, by decide +kernel, by decide +kernel⟩
structure T_is_key (K : PySem.W.Frag) (mg : Str → Option Value) : Prop where
  b_bool : mg "bool" = none
  b_int : mg "int" = none
  b_isinstance : mg "isinstance" = none
  c_FAR : ∃ t, mg "FAR" = some (.int 1000000000 t)
set_option maxHeartbeats 4000000 in
theorem d_is_key {P : Program} {w : World} {K : PySem.W.Frag} {mg : Str → Option Value} {base : Heap} {f : Addr} {cdv : Value} {A : Around} {outer : List Env} {s : Shared} {H : Hp} {E : XK} {k : Nat} (T : T_is_key K mg)
    (hr : Room k (A.deeper (PyProof.Rows.envOfC "is_key" (defScope st_is_key) s.heap.objs.size f cdv))) :
    PFB (cxOf (L2.CX P w) P w K mg base ["thing"] "is_key" (defScope st_is_key) f cdv A outer s H E) (fun c d _ H => E c d H) (defBody st_is_key) (f_is_key) :=
  pfb_one (pfs_ret (pf_and (pf_isi (pf_var 0) (by rfl) T.b_isinstance (by rfl) T.b_int) (pf_and (pf_not (pf_isi (pf_var 0) (by rfl) T.b_isinstance (by rfl) T.b_bool)) (pf_one (pf_chain op_le opd_le op_le opd_le (pf_neg (pf_glob (i := 1000000000) (by rfl) (T.c_FAR).choose_spec ⟨_, rfl⟩)) (pf_var 0) (pf_glob (i := 1000000000) (by rfl) (T.c_FAR).choose_spec ⟨_, rfl⟩))))))
abbrev st_check_key : Stmt := topS 8
theorem sc_check_key : FnScope ["thing"] ["thing"] (defScope st_check_key) :=
  ⟨rfl, rfl, rfl, by decide +kernel, rfl, by decide +kernel, by decide +kernel⟩
structure T_check_key (K : PySem.W.Frag) (mg : Str → Option Value) (C_BadKey : Addr) : Prop where
  e_BadKey : Exc K mg "BadKey" C_BadKey
set_option maxHeartbeats 4000000 in
theorem d_check_key {P : Program} {w : World} {K : PySem.W.Frag} {mg : Str → Option Value} {base : Heap} {f : Addr} {cdv : Value} {A : Around} {outer : List Env} {s : Shared} {H : Hp} {E : XK} {k : Nat} {C_BadKey : Addr} {F_is_key : FN} {k_is_key : Nat} (T : T_check_key K mg C_BadKey)
    (c_is_key : Cal P w K mg base "is_key" ["thing"] k_is_key F_is_key) (l_is_key : k_is_key ≤ k)
    (hr : Room k (A.deeper (PyProof.Rows.envOfC "check_key" (defScope st_check_key) s.heap.objs.size f cdv))) :
    PFB (cxOf (L2.CX P w) P w K mg base ["thing"] "check_key" (defScope st_check_key) f cdv A outer s H E) (fun c d _ H => E c d H) (defBody st_check_key) (f_check_key C_BadKey F_is_key) :=
  pfb_one (pfs_if (pft_not (pft_tru (pf_callC c_is_key hr l_is_key (by rfl) (takes_of rfl rfl rfl rfl) (pfa_cons (pf_var 0) (pfa_nil))))) (pfb_one (pfs_raiseE T.e_BadKey rfl (takes_of rfl rfl rfl rfl) (by rfl))) (pfb_nil))
abbrev st_height : Stmt := topS 10
theorem sc_height : FnScope ["tree"] ["tree"] (defScope st_height) :=
  ⟨rfl, rfl, rfl, by decide +kernel, rfl, by decide +kernel, by decide +kernel⟩
structure T_height (K : PySem.W.Frag) (mg : Str → Option Value) : Prop where
  triv : True
set_option maxHeartbeats 4000000 in
theorem d_height {P : Program} {w : World} {K : PySem.W.Frag} {mg : Str → Option Value} {base : Heap} {f : Addr} {cdv : Value} {A : Around} {outer : List Env} {s : Shared} {H : Hp} {E : XK} {k : Nat} (T : T_height K mg)
    (hr : Room k (A.deeper (PyProof.Rows.envOfC "height" (defScope st_height) s.heap.objs.size f cdv))) :
    PFB (cxOf (L2.CX P w) P w K mg base ["tree"] "height" (defScope st_height) f cdv A outer s H E) (fun c d _ H => E c d H) (defBody st_height) (f_height) :=
  pfb_one (pfs_ret (pf_ifExp (pft_cmp op_isN opd_is (pf_var 0) (pf_non) (nomark _)) (pf_int) (pf_ix (pf_var 0) (pf_int))))
abbrev st_how_many : Stmt := topS 11
theorem sc_how_many : FnScope ["tree"] ["tree"] (defScope st_how_many) :=
  ⟨rfl, rfl, rfl, by decide +kernel, rfl, by decide +kernel, by decide +kernel⟩
structure T_how_many (K : PySem.W.Frag) (mg : Str → Option Value) : Prop where
  triv : True
set_option maxHeartbeats 4000000 in
theorem d_how_many {P : Program} {w : World} {K : PySem.W.Frag} {mg : Str → Option Value} {base : Heap} {f : Addr} {cdv : Value} {A : Around} {outer : List Env} {s : Shared} {H : Hp} {E : XK} {k : Nat} (T : T_how_many K mg)
    (hr : Room k (A.deeper (PyProof.Rows.envOfC "how_many" (defScope st_how_many) s.heap.objs.size f cdv))) :
    PFB (cxOf (L2.CX P w) P w K mg base ["tree"] "how_many" (defScope st_how_many) f cdv A outer s H E) (fun c d _ H => E c d H) (defBody st_how_many) (f_how_many) :=
  pfb_one (pfs_ret (pf_ifExp (pft_cmp op_isN opd_is (pf_var 0) (pf_non) (nomark _)) (pf_int) (pf_ix (pf_var 0) (pf_int))))
abbrev st_node : Stmt := topS 12
theorem sc_node : FnScope ["left", "key", "what", "right"] ["left", "key", "what", "right"] (defScope st_node) :=
  ⟨rfl, rfl, rfl, by decide +kernel, rfl, by decide +kernel, by decide +kernel⟩
structure T_node (K : PySem.W.Frag) (mg : Str → Option Value) : Prop where
  b_max : mg "max" = none
set_option maxHeartbeats 4000000 in
theorem d_node {P : Program} {w : World} {K : PySem.W.Frag} {mg : Str → Option Value} {base : Heap} {f : Addr} {cdv : Value} {A : Around} {outer : List Env} {s : Shared} {H : Hp} {E : XK} {k : Nat} {F_how_many F_height : FN} {k_how_many k_height : Nat} (T : T_node K mg)
    (c_how_many : Cal P w K mg base "how_many" ["tree"] k_how_many F_how_many) (l_how_many : k_how_many ≤ k)
    (c_height : Cal P w K mg base "height" ["tree"] k_height F_height) (l_height : k_height ≤ k)
    (hr : Room k (A.deeper (PyProof.Rows.envOfC "node" (defScope st_node) s.heap.objs.size f cdv))) :
    PFB (cxOf (L2.CX P w) P w K mg base ["left", "key", "what", "right"] "node" (defScope st_node) f cdv A outer s H E) (fun c d _ H => E c d H) (defBody st_node) (f_node F_how_many F_height) :=
  pfb_one (pfs_ret (pf_tup (pfa_cons (pf_var 0) (pfa_cons (pf_var 1) (pfa_cons (pf_var 2) (pfa_cons (pf_var 3) (pfa_cons (pf_op op_addA (opd_add false) (pf_int) (pf_callB (call_maxA rfl) cd_max (by rfl) T.b_max (pfa_cons (pf_callC c_height hr l_height (by rfl) (takes_of rfl rfl rfl rfl) (pfa_cons (pf_var 0) (pfa_nil))) (pfa_cons (pf_callC c_height hr l_height (by rfl) (takes_of rfl rfl rfl rfl) (pfa_cons (pf_var 3) (pfa_nil))) (pfa_nil))))) (pfa_cons (pf_op op_addA (opd_add false) (pf_op op_addA (opd_add false) (pf_int) (pf_callC c_how_many hr l_how_many (by rfl) (takes_of rfl rfl rfl rfl) (pfa_cons (pf_var 0) (pfa_nil)))) (pf_callC c_how_many hr l_how_many (by rfl) (takes_of rfl rfl rfl rfl) (pfa_cons (pf_var 3) (pfa_nil)))) (pfa_nil)))))))))
abbrev st_leaned : Stmt := topS 13
theorem sc_leaned : FnScope ["left", "key", "what", "right", "a", "k", "w", "b"] ["left", "key", "what", "right"] (defScope st_leaned) :=
  ⟨rfl, rfl, rfl, by decide +kernel, rfl, by decide +kernel, by decide +kernel⟩
structure T_leaned (K : PySem.W.Frag) (mg : Str → Option Value) : Prop where
  triv : True
set_option maxHeartbeats 4000000 in
theorem d_leaned {P : Program} {w : World} {K : PySem.W.Frag} {mg : Str → Option Value} {base : Heap} {f : Addr} {cdv : Value} {A : Around} {outer : List Env} {s : Shared} {H : Hp} {E : XK} {k : Nat} {F_height F_node : FN} {k_height k_node : Nat} (T : T_leaned K mg)
    (c_height : Cal P w K mg base "height" ["tree"] k_height F_height) (l_height : k_height ≤ k)
    (c_node : Cal P w K mg base "node" ["left", "key", "what", "right"] k_node F_node) (l_node : k_node ≤ k)
    (hr : Room k (A.deeper (PyProof.Rows.envOfC "leaned" (defScope st_leaned) s.heap.objs.size f cdv))) :
    PFB (cxOf (L2.CX P w) P w K mg base ["left", "key", "what", "right", "a", "k", "w", "b"] "leaned" (defScope st_leaned) f cdv A outer s H E) (fun c d _ H => E c d H) (defBody st_leaned) (f_leaned F_height F_node) :=
  pfb_cons (pfs_if (pft_cmp (op_gtA hr.units0) opd_gtA (pf_callC c_height hr l_height (by rfl) (takes_of rfl rfl rfl rfl) (pfa_cons (pf_var 0) (pfa_nil))) (pf_op op_addA (opd_add false) (pf_callC c_height hr l_height (by rfl) (takes_of rfl rfl rfl rfl) (pfa_cons (pf_var 3) (pfa_nil))) (pf_int)) (nomark _)) (pfb_cons (pfs_asg (pf_sl false (pf_var 0) (pfo_none) (pfo_some (pf_int))) (pfg_tup rfl (pfgs_cons (pfg_name (i := 4) sc_leaned.nd rfl (Or.inl rfl)) (pfgs_cons (pfg_name (i := 5) sc_leaned.nd rfl (Or.inl rfl)) (pfgs_cons (pfg_name (i := 6) sc_leaned.nd rfl (Or.inl rfl)) (pfgs_cons (pfg_name (i := 7) sc_leaned.nd rfl (Or.inl rfl)) (pfgs_nil)))))))
    (pfb_cons (pfs_if (pft_cmp op_ge opd_ge (pf_callC c_height hr l_height (by rfl) (takes_of rfl rfl rfl rfl) (pfa_cons (pf_var 4) (pfa_nil))) (pf_callC c_height hr l_height (by rfl) (takes_of rfl rfl rfl rfl) (pfa_cons (pf_var 7) (pfa_nil))) (nomark _)) (pfb_one (pfs_ret (pf_callC c_node hr l_node (by rfl) (takes_of rfl rfl rfl rfl) (pfa_cons (pf_var 4) (pfa_cons (pf_var 5) (pfa_cons (pf_var 6) (pfa_cons (pf_callC c_node hr l_node (by rfl) (takes_of rfl rfl rfl rfl) (pfa_cons (pf_var 7) (pfa_cons (pf_var 1) (pfa_cons (pf_var 2) (pfa_cons (pf_var 3) (pfa_nil)))))) (pfa_nil)))))))) (pfb_nil))
    (pfb_one (pfs_ret (pf_callC c_node hr l_node (by rfl) (takes_of rfl rfl rfl rfl) (pfa_cons (pf_callC c_node hr l_node (by rfl) (takes_of rfl rfl rfl rfl) (pfa_cons (pf_var 4) (pfa_cons (pf_var 5) (pfa_cons (pf_var 6) (pfa_cons (pf_ix (pf_var 7) (pf_int)) (pfa_nil)))))) (pfa_cons (pf_ix (pf_var 7) (pf_int)) (pfa_cons (pf_ix (pf_var 7) (pf_int)) (pfa_cons (pf_callC c_node hr l_node (by rfl) (takes_of rfl rfl rfl rfl) (pfa_cons (pf_ix (pf_var 7) (pf_int)) (pfa_cons (pf_var 1) (pfa_cons (pf_var 2) (pfa_cons (pf_var 3) (pfa_nil)))))) (pfa_nil)))))))))) (pfb_nil))
    (pfb_cons (pfs_if (pft_cmp (op_gtA hr.units0) opd_gtA (pf_callC c_height hr l_height (by rfl) (takes_of rfl rfl rfl rfl) (pfa_cons (pf_var 3) (pfa_nil))) (pf_op op_addA (opd_add false) (pf_callC c_height hr l_height (by rfl) (takes_of rfl rfl rfl rfl) (pfa_cons (pf_var 0) (pfa_nil))) (pf_int)) (nomark _)) (pfb_cons (pfs_asg (pf_sl false (pf_var 3) (pfo_none) (pfo_some (pf_int))) (pfg_tup rfl (pfgs_cons (pfg_name (i := 4) sc_leaned.nd rfl (Or.inl rfl)) (pfgs_cons (pfg_name (i := 5) sc_leaned.nd rfl (Or.inl rfl)) (pfgs_cons (pfg_name (i := 6) sc_leaned.nd rfl (Or.inl rfl)) (pfgs_cons (pfg_name (i := 7) sc_leaned.nd rfl (Or.inl rfl)) (pfgs_nil)))))))
    (pfb_cons (pfs_if (pft_cmp op_ge opd_ge (pf_callC c_height hr l_height (by rfl) (takes_of rfl rfl rfl rfl) (pfa_cons (pf_var 7) (pfa_nil))) (pf_callC c_height hr l_height (by rfl) (takes_of rfl rfl rfl rfl) (pfa_cons (pf_var 4) (pfa_nil))) (nomark _)) (pfb_one (pfs_ret (pf_callC c_node hr l_node (by rfl) (takes_of rfl rfl rfl rfl) (pfa_cons (pf_callC c_node hr l_node (by rfl) (takes_of rfl rfl rfl rfl) (pfa_cons (pf_var 0) (pfa_cons (pf_var 1) (pfa_cons (pf_var 2) (pfa_cons (pf_var 4) (pfa_nil)))))) (pfa_cons (pf_var 5) (pfa_cons (pf_var 6) (pfa_cons (pf_var 7) (pfa_nil)))))))) (pfb_nil))
    (pfb_one (pfs_ret (pf_callC c_node hr l_node (by rfl) (takes_of rfl rfl rfl rfl) (pfa_cons (pf_callC c_node hr l_node (by rfl) (takes_of rfl rfl rfl rfl) (pfa_cons (pf_var 0) (pfa_cons (pf_var 1) (pfa_cons (pf_var 2) (pfa_cons (pf_ix (pf_var 4) (pf_int)) (pfa_nil)))))) (pfa_cons (pf_ix (pf_var 4) (pf_int)) (pfa_cons (pf_ix (pf_var 4) (pf_int)) (pfa_cons (pf_callC c_node hr l_node (by rfl) (takes_of rfl rfl rfl rfl) (pfa_cons (pf_ix (pf_var 4) (pf_int)) (pfa_cons (pf_var 5) (pfa_cons (pf_var 6) (pfa_cons (pf_var 7) (pfa_nil)))))) (pfa_nil)))))))))) (pfb_nil))
    (pfb_one (pfs_ret (pf_callC c_node hr l_node (by rfl) (takes_of rfl rfl rfl rfl) (pfa_cons (pf_var 0) (pfa_cons (pf_var 1) (pfa_cons (pf_var 2) (pfa_cons (pf_var 3) (pfa_nil)))))))))
abbrev st_put : Stmt := topS 14
theorem sc_put : FnScope ["tree", "key", "what", "left", "here", "told", "right"] ["tree", "key", "what"] (defScope st_put) :=
  ⟨rfl, rfl, rfl, by decide +kernel, rfl, by decide +kernel, by decide +kernel⟩
structure T_put (K : PySem.W.Frag) (mg : Str → Option Value) : Prop where
  triv : True
set_option maxHeartbeats 4000000 in
theorem d_put {P : Program} {w : World} {K : PySem.W.Frag} {mg : Str → Option Value} {base : Heap} {f : Addr} {cdv : Value} {A : Around} {outer : List Env} {s : Shared} {H : Hp} {E : XK} {k : Nat} {F_check_key F_node F_leaned F_put : FN} {k_check_key k_node k_leaned k_put : Nat} (T : T_put K mg)
    (c_check_key : Cal P w K mg base "check_key" ["thing"] k_check_key F_check_key) (l_check_key : k_check_key ≤ k)
    (c_node : Cal P w K mg base "node" ["left", "key", "what", "right"] k_node F_node) (l_node : k_node ≤ k)
    (c_leaned : Cal P w K mg base "leaned" ["left", "key", "what", "right"] k_leaned F_leaned) (l_leaned : k_leaned ≤ k)
    (c_put : Cal P w K mg base "put" ["tree", "key", "what"] k_put F_put) (l_put : k_put ≤ k)
    (hr : Room k (A.deeper (PyProof.Rows.envOfC "put" (defScope st_put) s.heap.objs.size f cdv))) :
    PFB (cxOf (L2.CX P w) P w K mg base ["tree", "key", "what", "left", "here", "told", "right"] "put" (defScope st_put) f cdv A outer s H E) (fun c d _ H => E c d H) (defBody st_put) (f_put F_check_key F_node F_leaned F_put) :=
  pfb_cons (pfs_expr (pf_callC c_check_key hr l_check_key (by rfl) (takes_of rfl rfl rfl rfl) (pfa_cons (pf_var 1) (pfa_nil))))
    (pfb_cons (pfs_if (pft_cmp op_isN opd_is (pf_var 0) (pf_non) (nomark _)) (pfb_one (pfs_ret (pf_callC c_node hr l_node (by rfl) (takes_of rfl rfl rfl rfl) (pfa_cons (pf_non) (pfa_cons (pf_var 1) (pfa_cons (pf_var 2) (pfa_cons (pf_non) (pfa_nil)))))))) (pfb_nil))
    (pfb_cons (pfs_asg (pf_sl false (pf_var 0) (pfo_none) (pfo_some (pf_int))) (pfg_tup rfl (pfgs_cons (pfg_name (i := 3) sc_put.nd rfl (Or.inl rfl)) (pfgs_cons (pfg_name (i := 4) sc_put.nd rfl (Or.inl rfl)) (pfgs_cons (pfg_name (i := 5) sc_put.nd rfl (Or.inl rfl)) (pfgs_cons (pfg_name (i := 6) sc_put.nd rfl (Or.inl rfl)) (pfgs_nil)))))))
    (pfb_cons (pfs_if (pft_cmp (op_eqD hr.units) opd_eq (pf_var 1) (pf_var 4) (nomark _)) (pfb_one (pfs_ret (pf_callC c_node hr l_node (by rfl) (takes_of rfl rfl rfl rfl) (pfa_cons (pf_var 3) (pfa_cons (pf_var 1) (pfa_cons (pf_var 2) (pfa_cons (pf_var 6) (pfa_nil)))))))) (pfb_nil))
    (pfb_cons (pfs_if (pft_cmp (op_ltA hr.units0) opd_lt (pf_var 1) (pf_var 4) (nomark _)) (pfb_one (pfs_ret (pf_callC c_leaned hr l_leaned (by rfl) (takes_of rfl rfl rfl rfl) (pfa_cons (pf_callC c_put hr l_put (by rfl) (takes_of rfl rfl rfl rfl) (pfa_cons (pf_var 3) (pfa_cons (pf_var 1) (pfa_cons (pf_var 2) (pfa_nil))))) (pfa_cons (pf_var 4) (pfa_cons (pf_var 5) (pfa_cons (pf_var 6) (pfa_nil)))))))) (pfb_nil))
    (pfb_one (pfs_ret (pf_callC c_leaned hr l_leaned (by rfl) (takes_of rfl rfl rfl rfl) (pfa_cons (pf_var 3) (pfa_cons (pf_var 4) (pfa_cons (pf_var 5) (pfa_cons (pf_callC c_put hr l_put (by rfl) (takes_of rfl rfl rfl rfl) (pfa_cons (pf_var 6) (pfa_cons (pf_var 1) (pfa_cons (pf_var 2) (pfa_nil))))) (pfa_nil))))))))))))
abbrev st_least : Stmt := topS 15
theorem sc_least : FnScope ["tree"] ["tree"] (defScope st_least) :=
  ⟨rfl, rfl, rfl, by decide +kernel, rfl, by decide +kernel, by decide +kernel⟩
structure T_least (K : PySem.W.Frag) (mg : Str → Option Value) : Prop where
  triv : True
set_option maxHeartbeats 4000000 in
theorem d_least {P : Program} {w : World} {K : PySem.W.Frag} {mg : Str → Option Value} {base : Heap} {f : Addr} {cdv : Value} {A : Around} {outer : List Env} {s : Shared} {H : Hp} {E : XK} {k : Nat} (T : T_least K mg)
    (hr : Room k (A.deeper (PyProof.Rows.envOfC "least" (defScope st_least) s.heap.objs.size f cdv))) :
    PFB (cxOf (L2.CX P w) P w K mg base ["tree"] "least" (defScope st_least) f cdv A outer s H E) (fun c d _ H => E c d H) (defBody st_least) (f_least) :=
  pfb_cons (pfs_if (pft_cmp op_isN opd_is (pf_var 0) (pf_non) (nomark _)) (pfb_one (pfs_dead)) (pfb_nil))
    (pfb_cons (pfs_while 100000 (passes_of rfl) (pft_cmp op_notN opd_isnot (pf_ix (pf_var 0) (pf_int)) (pf_non) (nomark _)) (pfb_one (pfs_set (i := 0) sc_least.nd rfl (Or.inl rfl) (pf_ix (pf_var 0) (pf_int)))))
    (pfb_one (pfs_ret (pf_tup (pfa_cons (pf_ix (pf_var 0) (pf_int)) (pfa_cons (pf_ix (pf_var 0) (pf_int)) (pfa_nil)))))))
abbrev st_without_least : Stmt := topS 16
theorem sc_without_least : FnScope ["tree"] ["tree"] (defScope st_without_least) :=
  ⟨rfl, rfl, rfl, by decide +kernel, rfl, by decide +kernel, by decide +kernel⟩
structure T_without_least (K : PySem.W.Frag) (mg : Str → Option Value) : Prop where
  triv : True
set_option maxHeartbeats 4000000 in
theorem d_without_least {P : Program} {w : World} {K : PySem.W.Frag} {mg : Str → Option Value} {base : Heap} {f : Addr} {cdv : Value} {A : Around} {outer : List Env} {s : Shared} {H : Hp} {E : XK} {k : Nat} {F_leaned F_without_least : FN} {k_leaned k_without_least : Nat} (T : T_without_least K mg)
    (c_leaned : Cal P w K mg base "leaned" ["left", "key", "what", "right"] k_leaned F_leaned) (l_leaned : k_leaned ≤ k)
    (c_without_least : Cal P w K mg base "without_least" ["tree"] k_without_least F_without_least) (l_without_least : k_without_least ≤ k)
    (hr : Room k (A.deeper (PyProof.Rows.envOfC "without_least" (defScope st_without_least) s.heap.objs.size f cdv))) :
    PFB (cxOf (L2.CX P w) P w K mg base ["tree"] "without_least" (defScope st_without_least) f cdv A outer s H E) (fun c d _ H => E c d H) (defBody st_without_least) (f_without_least F_leaned F_without_least) :=
  pfb_cons (pfs_if (pft_cmp op_isN opd_is (pf_ix (pf_var 0) (pf_int)) (pf_non) (nomark _)) (pfb_one (pfs_ret (pf_ix (pf_var 0) (pf_int)))) (pfb_nil))
    (pfb_one (pfs_ret (pf_callC c_leaned hr l_leaned (by rfl) (takes_of rfl rfl rfl rfl) (pfa_cons (pf_callC c_without_least hr l_without_least (by rfl) (takes_of rfl rfl rfl rfl) (pfa_cons (pf_ix (pf_var 0) (pf_int)) (pfa_nil))) (pfa_cons (pf_ix (pf_var 0) (pf_int)) (pfa_cons (pf_ix (pf_var 0) (pf_int)) (pfa_cons (pf_ix (pf_var 0) (pf_int)) (pfa_nil))))))))
abbrev st_joined : Stmt := topS 17
theorem sc_joined : FnScope ["left", "key", "what", "right"] ["left", "key", "what", "right"] (defScope st_joined) :=
  ⟨rfl, rfl, rfl, by decide +kernel, rfl, by decide +kernel, by decide +kernel⟩
structure T_joined (K : PySem.W.Frag) (mg : Str → Option Value) : Prop where
  triv : True
set_option maxHeartbeats 4000000 in
theorem d_joined {P : Program} {w : World} {K : PySem.W.Frag} {mg : Str → Option Value} {base : Heap} {f : Addr} {cdv : Value} {A : Around} {outer : List Env} {s : Shared} {H : Hp} {E : XK} {k : Nat} {F_height F_leaned F_joined F_node : FN} {k_height k_leaned k_joined k_node : Nat} (T : T_joined K mg)
    (c_height : Cal P w K mg base "height" ["tree"] k_height F_height) (l_height : k_height ≤ k)
    (c_leaned : Cal P w K mg base "leaned" ["left", "key", "what", "right"] k_leaned F_leaned) (l_leaned : k_leaned ≤ k)
    (c_joined : Cal P w K mg base "joined" ["left", "key", "what", "right"] k_joined F_joined) (l_joined : k_joined ≤ k)
    (c_node : Cal P w K mg base "node" ["left", "key", "what", "right"] k_node F_node) (l_node : k_node ≤ k)
    (hr : Room k (A.deeper (PyProof.Rows.envOfC "joined" (defScope st_joined) s.heap.objs.size f cdv))) :
    PFB (cxOf (L2.CX P w) P w K mg base ["left", "key", "what", "right"] "joined" (defScope st_joined) f cdv A outer s H E) (fun c d _ H => E c d H) (defBody st_joined) (f_joined F_height F_leaned F_joined F_node) :=
  pfb_cons (pfs_if (pft_cmp (op_gtA hr.units0) opd_gtA (pf_callC c_height hr l_height (by rfl) (takes_of rfl rfl rfl rfl) (pfa_cons (pf_var 0) (pfa_nil))) (pf_op op_addA (opd_add false) (pf_callC c_height hr l_height (by rfl) (takes_of rfl rfl rfl rfl) (pfa_cons (pf_var 3) (pfa_nil))) (pf_int)) (nomark _)) (pfb_one (pfs_ret (pf_callC c_leaned hr l_leaned (by rfl) (takes_of rfl rfl rfl rfl) (pfa_cons (pf_ix (pf_var 0) (pf_int)) (pfa_cons (pf_ix (pf_var 0) (pf_int)) (pfa_cons (pf_ix (pf_var 0) (pf_int)) (pfa_cons (pf_callC c_joined hr l_joined (by rfl) (takes_of rfl rfl rfl rfl) (pfa_cons (pf_ix (pf_var 0) (pf_int)) (pfa_cons (pf_var 1) (pfa_cons (pf_var 2) (pfa_cons (pf_var 3) (pfa_nil)))))) (pfa_nil)))))))) (pfb_nil))
    (pfb_cons (pfs_if (pft_cmp (op_gtA hr.units0) opd_gtA (pf_callC c_height hr l_height (by rfl) (takes_of rfl rfl rfl rfl) (pfa_cons (pf_var 3) (pfa_nil))) (pf_op op_addA (opd_add false) (pf_callC c_height hr l_height (by rfl) (takes_of rfl rfl rfl rfl) (pfa_cons (pf_var 0) (pfa_nil))) (pf_int)) (nomark _)) (pfb_one (pfs_ret (pf_callC c_leaned hr l_leaned (by rfl) (takes_of rfl rfl rfl rfl) (pfa_cons (pf_callC c_joined hr l_joined (by rfl) (takes_of rfl rfl rfl rfl) (pfa_cons (pf_var 0) (pfa_cons (pf_var 1) (pfa_cons (pf_var 2) (pfa_cons (pf_ix (pf_var 3) (pf_int)) (pfa_nil)))))) (pfa_cons (pf_ix (pf_var 3) (pf_int)) (pfa_cons (pf_ix (pf_var 3) (pf_int)) (pfa_cons (pf_ix (pf_var 3) (pf_int)) (pfa_nil)))))))) (pfb_nil))
    (pfb_one (pfs_ret (pf_callC c_node hr l_node (by rfl) (takes_of rfl rfl rfl rfl) (pfa_cons (pf_var 0) (pfa_cons (pf_var 1) (pfa_cons (pf_var 2) (pfa_cons (pf_var 3) (pfa_nil)))))))))
abbrev st_behind : Stmt := topS 18
theorem sc_behind : FnScope ["left", "right", "key", "what"] ["left", "right"] (defScope st_behind) :=
  ⟨rfl, rfl, rfl, by decide +kernel, rfl, by decide +kernel, by decide +kernel⟩
structure T_behind (K : PySem.W.Frag) (mg : Str → Option Value) : Prop where
  triv : True
set_option maxHeartbeats 4000000 in
theorem d_behind {P : Program} {w : World} {K : PySem.W.Frag} {mg : Str → Option Value} {base : Heap} {f : Addr} {cdv : Value} {A : Around} {outer : List Env} {s : Shared} {H : Hp} {E : XK} {k : Nat} {F_least F_joined F_without_least : FN} {k_least k_joined k_without_least : Nat} (T : T_behind K mg)
    (c_least : Cal P w K mg base "least" ["tree"] k_least F_least) (l_least : k_least ≤ k)
    (c_joined : Cal P w K mg base "joined" ["left", "key", "what", "right"] k_joined F_joined) (l_joined : k_joined ≤ k)
    (c_without_least : Cal P w K mg base "without_least" ["tree"] k_without_least F_without_least) (l_without_least : k_without_least ≤ k)
    (hr : Room k (A.deeper (PyProof.Rows.envOfC "behind" (defScope st_behind) s.heap.objs.size f cdv))) :
    PFB (cxOf (L2.CX P w) P w K mg base ["left", "right", "key", "what"] "behind" (defScope st_behind) f cdv A outer s H E) (fun c d _ H => E c d H) (defBody st_behind) (f_behind F_least F_joined F_without_least) :=
  pfb_cons (pfs_if (pft_cmp op_isN opd_is (pf_var 1) (pf_non) (nomark _)) (pfb_one (pfs_ret (pf_var 0))) (pfb_nil))
    (pfb_cons (pfs_asg (pf_callC c_least hr l_least (by rfl) (takes_of rfl rfl rfl rfl) (pfa_cons (pf_var 1) (pfa_nil))) (pfg_tup rfl (pfgs_cons (pfg_name (i := 2) sc_behind.nd rfl (Or.inl rfl)) (pfgs_cons (pfg_name (i := 3) sc_behind.nd rfl (Or.inl rfl)) (pfgs_nil)))))
    (pfb_one (pfs_ret (pf_callC c_joined hr l_joined (by rfl) (takes_of rfl rfl rfl rfl) (pfa_cons (pf_var 0) (pfa_cons (pf_var 2) (pfa_cons (pf_var 3) (pfa_cons (pf_callC c_without_least hr l_without_least (by rfl) (takes_of rfl rfl rfl rfl) (pfa_cons (pf_var 1) (pfa_nil))) (pfa_nil)))))))))
abbrev st_split : Stmt := topS 19
theorem sc_split : FnScope ["tree", "key", "left", "here", "told", "right", "low", "what", "high"] ["tree", "key"] (defScope st_split) :=
  ⟨rfl, rfl, rfl, by decide +kernel, rfl, by decide +kernel, by decide +kernel⟩
structure T_split (K : PySem.W.Frag) (mg : Str → Option Value) : Prop where
  triv : True
set_option maxHeartbeats 4000000 in
theorem d_split {P : Program} {w : World} {K : PySem.W.Frag} {mg : Str → Option Value} {base : Heap} {f : Addr} {cdv : Value} {A : Around} {outer : List Env} {s : Shared} {H : Hp} {E : XK} {k : Nat} {F_split F_joined : FN} {k_split k_joined : Nat} (T : T_split K mg)
    (c_split : Cal P w K mg base "split" ["tree", "key"] k_split F_split) (l_split : k_split ≤ k)
    (c_joined : Cal P w K mg base "joined" ["left", "key", "what", "right"] k_joined F_joined) (l_joined : k_joined ≤ k)
    (hr : Room k (A.deeper (PyProof.Rows.envOfC "split" (defScope st_split) s.heap.objs.size f cdv))) :
    PFB (cxOf (L2.CX P w) P w K mg base ["tree", "key", "left", "here", "told", "right", "low", "what", "high"] "split" (defScope st_split) f cdv A outer s H E) (fun c d _ H => E c d H) (defBody st_split) (f_split F_split F_joined) :=
  pfb_cons (pfs_if (pft_cmp op_isN opd_is (pf_var 0) (pf_non) (nomark _)) (pfb_one (pfs_ret (pf_tup (pfa_cons (pf_non) (pfa_cons (pf_non) (pfa_cons (pf_non) (pfa_nil))))))) (pfb_nil))
    (pfb_cons (pfs_asg (pf_sl false (pf_var 0) (pfo_none) (pfo_some (pf_int))) (pfg_tup rfl (pfgs_cons (pfg_name (i := 2) sc_split.nd rfl (Or.inl rfl)) (pfgs_cons (pfg_name (i := 3) sc_split.nd rfl (Or.inl rfl)) (pfgs_cons (pfg_name (i := 4) sc_split.nd rfl (Or.inl rfl)) (pfgs_cons (pfg_name (i := 5) sc_split.nd rfl (Or.inl rfl)) (pfgs_nil)))))))
    (pfb_cons (pfs_if (pft_cmp (op_eqD hr.units) opd_eq (pf_var 1) (pf_var 3) (nomark _)) (pfb_one (pfs_ret (pf_tup (pfa_cons (pf_var 2) (pfa_cons (pf_var 4) (pfa_cons (pf_var 5) (pfa_nil))))))) (pfb_nil))
    (pfb_cons (pfs_if (pft_cmp (op_ltA hr.units0) opd_lt (pf_var 1) (pf_var 3) (nomark _)) (pfb_cons (pfs_asg (pf_callC c_split hr l_split (by rfl) (takes_of rfl rfl rfl rfl) (pfa_cons (pf_var 2) (pfa_cons (pf_var 1) (pfa_nil)))) (pfg_tup rfl (pfgs_cons (pfg_name (i := 6) sc_split.nd rfl (Or.inl rfl)) (pfgs_cons (pfg_name (i := 7) sc_split.nd rfl (Or.inl rfl)) (pfgs_cons (pfg_name (i := 8) sc_split.nd rfl (Or.inl rfl)) (pfgs_nil))))))
    (pfb_one (pfs_ret (pf_tup (pfa_cons (pf_var 6) (pfa_cons (pf_var 7) (pfa_cons (pf_callC c_joined hr l_joined (by rfl) (takes_of rfl rfl rfl rfl) (pfa_cons (pf_var 8) (pfa_cons (pf_var 3) (pfa_cons (pf_var 4) (pfa_cons (pf_var 5) (pfa_nil)))))) (pfa_nil)))))))) (pfb_nil))
    (pfb_cons (pfs_asg (pf_callC c_split hr l_split (by rfl) (takes_of rfl rfl rfl rfl) (pfa_cons (pf_var 5) (pfa_cons (pf_var 1) (pfa_nil)))) (pfg_tup rfl (pfgs_cons (pfg_name (i := 6) sc_split.nd rfl (Or.inl rfl)) (pfgs_cons (pfg_name (i := 7) sc_split.nd rfl (Or.inl rfl)) (pfgs_cons (pfg_name (i := 8) sc_split.nd rfl (Or.inl rfl)) (pfgs_nil))))))
    (pfb_one (pfs_ret (pf_tup (pfa_cons (pf_callC c_joined hr l_joined (by rfl) (takes_of rfl rfl rfl rfl) (pfa_cons (pf_var 2) (pfa_cons (pf_var 3) (pfa_cons (pf_var 4) (pfa_cons (pf_var 6) (pfa_nil)))))) (pfa_cons (pf_var 7) (pfa_cons (pf_var 8) (pfa_nil)))))))))))
abbrev st_put_together : Stmt := topS 20
theorem sc_put_together : FnScope ["one", "other", "low", "what", "high"] ["one", "other"] (defScope st_put_together) :=
  ⟨rfl, rfl, rfl, by decide +kernel, rfl, by decide +kernel, by decide +kernel⟩
structure T_put_together (K : PySem.W.Frag) (mg : Str → Option Value) : Prop where
  triv : True
set_option maxHeartbeats 4000000 in
theorem d_put_together {P : Program} {w : World} {K : PySem.W.Frag} {mg : Str → Option Value} {base : Heap} {f : Addr} {cdv : Value} {A : Around} {outer : List Env} {s : Shared} {H : Hp} {E : XK} {k : Nat} {F_split F_joined F_put_together : FN} {k_split k_joined k_put_together : Nat} (T : T_put_together K mg)
    (c_split : Cal P w K mg base "split" ["tree", "key"] k_split F_split) (l_split : k_split ≤ k)
    (c_joined : Cal P w K mg base "joined" ["left", "key", "what", "right"] k_joined F_joined) (l_joined : k_joined ≤ k)
    (c_put_together : Cal P w K mg base "put_together" ["one", "other"] k_put_together F_put_together) (l_put_together : k_put_together ≤ k)
    (hr : Room k (A.deeper (PyProof.Rows.envOfC "put_together" (defScope st_put_together) s.heap.objs.size f cdv))) :
    PFB (cxOf (L2.CX P w) P w K mg base ["one", "other", "low", "what", "high"] "put_together" (defScope st_put_together) f cdv A outer s H E) (fun c d _ H => E c d H) (defBody st_put_together) (f_put_together F_split F_joined F_put_together) :=
  pfb_cons (pfs_if (pft_cmp op_isN opd_is (pf_var 0) (pf_non) (nomark _)) (pfb_one (pfs_ret (pf_var 1))) (pfb_nil))
    (pfb_cons (pfs_asg (pf_callC c_split hr l_split (by rfl) (takes_of rfl rfl rfl rfl) (pfa_cons (pf_var 1) (pfa_cons (pf_ix (pf_var 0) (pf_int)) (pfa_nil)))) (pfg_tup rfl (pfgs_cons (pfg_name (i := 2) sc_put_together.nd rfl (Or.inl rfl)) (pfgs_cons (pfg_name (i := 3) sc_put_together.nd rfl (Or.inl rfl)) (pfgs_cons (pfg_name (i := 4) sc_put_together.nd rfl (Or.inl rfl)) (pfgs_nil))))))
    (pfb_one (pfs_ret (pf_callC c_joined hr l_joined (by rfl) (takes_of rfl rfl rfl rfl) (pfa_cons (pf_callC c_put_together hr l_put_together (by rfl) (takes_of rfl rfl rfl rfl) (pfa_cons (pf_ix (pf_var 0) (pf_int)) (pfa_cons (pf_var 2) (pfa_nil)))) (pfa_cons (pf_ix (pf_var 0) (pf_int)) (pfa_cons (pf_ix (pf_var 0) (pf_int)) (pfa_cons (pf_callC c_put_together hr l_put_together (by rfl) (takes_of rfl rfl rfl rfl) (pfa_cons (pf_ix (pf_var 0) (pf_int)) (pfa_cons (pf_var 4) (pfa_nil)))) (pfa_nil)))))))))
abbrev st_shared : Stmt := topS 21
theorem sc_shared : FnScope ["one", "other", "low", "what", "high", "left", "right"] ["one", "other"] (defScope st_shared) :=
  ⟨rfl, rfl, rfl, by decide +kernel, rfl, by decide +kernel, by decide +kernel⟩
structure T_shared (K : PySem.W.Frag) (mg : Str → Option Value) : Prop where
  triv : True
set_option maxHeartbeats 4000000 in
theorem d_shared {P : Program} {w : World} {K : PySem.W.Frag} {mg : Str → Option Value} {base : Heap} {f : Addr} {cdv : Value} {A : Around} {outer : List Env} {s : Shared} {H : Hp} {E : XK} {k : Nat} {F_split F_shared F_behind F_joined : FN} {k_split k_shared k_behind k_joined : Nat} (T : T_shared K mg)
    (c_split : Cal P w K mg base "split" ["tree", "key"] k_split F_split) (l_split : k_split ≤ k)
    (c_shared : Cal P w K mg base "shared" ["one", "other"] k_shared F_shared) (l_shared : k_shared ≤ k)
    (c_behind : Cal P w K mg base "behind" ["left", "right"] k_behind F_behind) (l_behind : k_behind ≤ k)
    (c_joined : Cal P w K mg base "joined" ["left", "key", "what", "right"] k_joined F_joined) (l_joined : k_joined ≤ k)
    (hr : Room k (A.deeper (PyProof.Rows.envOfC "shared" (defScope st_shared) s.heap.objs.size f cdv))) :
    PFB (cxOf (L2.CX P w) P w K mg base ["one", "other", "low", "what", "high", "left", "right"] "shared" (defScope st_shared) f cdv A outer s H E) (fun c d _ H => E c d H) (defBody st_shared) (f_shared F_split F_shared F_behind F_joined) :=
  pfb_cons (pfs_if (pft_w (pfw_or (pft_cmp op_isN opd_is (pf_var 0) (pf_non) (nomark _)) (pfw_or1 (pft_cmp op_isN opd_is (pf_var 1) (pf_non) (nomark _))))) (pfb_one (pfs_ret (pf_non))) (pfb_nil))
    (pfb_cons (pfs_asg (pf_callC c_split hr l_split (by rfl) (takes_of rfl rfl rfl rfl) (pfa_cons (pf_var 1) (pfa_cons (pf_ix (pf_var 0) (pf_int)) (pfa_nil)))) (pfg_tup rfl (pfgs_cons (pfg_name (i := 2) sc_shared.nd rfl (Or.inl rfl)) (pfgs_cons (pfg_name (i := 3) sc_shared.nd rfl (Or.inl rfl)) (pfgs_cons (pfg_name (i := 4) sc_shared.nd rfl (Or.inl rfl)) (pfgs_nil))))))
    (pfb_cons (pfs_par (i := 5) (j := 6) rfl sc_shared.nd rfl rfl (by decide) rfl rfl (pfa_cons (pf_callC c_shared hr l_shared (by rfl) (takes_of rfl rfl rfl rfl) (pfa_cons (pf_ix (pf_var 0) (pf_int)) (pfa_cons (pf_var 2) (pfa_nil)))) (pfa_cons (pf_callC c_shared hr l_shared (by rfl) (takes_of rfl rfl rfl rfl) (pfa_cons (pf_ix (pf_var 0) (pf_int)) (pfa_cons (pf_var 4) (pfa_nil)))) (pfa_nil))) (by rfl))
    (pfb_one (pfs_ret (pf_ifExp (pft_cmp op_isN opd_is (pf_var 3) (pf_non) (nomark _)) (pf_callC c_behind hr l_behind (by rfl) (takes_of rfl rfl rfl rfl) (pfa_cons (pf_var 5) (pfa_cons (pf_var 6) (pfa_nil)))) (pf_callC c_joined hr l_joined (by rfl) (takes_of rfl rfl rfl rfl) (pfa_cons (pf_var 5) (pfa_cons (pf_ix (pf_var 0) (pf_int)) (pfa_cons (pf_ix (pf_var 0) (pf_int)) (pfa_cons (pf_var 6) (pfa_nil)))))))))))
abbrev st_less : Stmt := topS 22
theorem sc_less : FnScope ["one", "other", "low", "what", "high"] ["one", "other"] (defScope st_less) :=
  ⟨rfl, rfl, rfl, by decide +kernel, rfl, by decide +kernel, by decide +kernel⟩
structure T_less (K : PySem.W.Frag) (mg : Str → Option Value) : Prop where
  triv : True
set_option maxHeartbeats 4000000 in
theorem d_less {P : Program} {w : World} {K : PySem.W.Frag} {mg : Str → Option Value} {base : Heap} {f : Addr} {cdv : Value} {A : Around} {outer : List Env} {s : Shared} {H : Hp} {E : XK} {k : Nat} {F_split F_behind F_less : FN} {k_split k_behind k_less : Nat} (T : T_less K mg)
    (c_split : Cal P w K mg base "split" ["tree", "key"] k_split F_split) (l_split : k_split ≤ k)
    (c_behind : Cal P w K mg base "behind" ["left", "right"] k_behind F_behind) (l_behind : k_behind ≤ k)
    (c_less : Cal P w K mg base "less" ["one", "other"] k_less F_less) (l_less : k_less ≤ k)
    (hr : Room k (A.deeper (PyProof.Rows.envOfC "less" (defScope st_less) s.heap.objs.size f cdv))) :
    PFB (cxOf (L2.CX P w) P w K mg base ["one", "other", "low", "what", "high"] "less" (defScope st_less) f cdv A outer s H E) (fun c d _ H => E c d H) (defBody st_less) (f_less F_split F_behind F_less) :=
  pfb_cons (pfs_if (pft_w (pfw_or (pft_cmp op_isN opd_is (pf_var 0) (pf_non) (nomark _)) (pfw_or1 (pft_cmp op_isN opd_is (pf_var 1) (pf_non) (nomark _))))) (pfb_one (pfs_ret (pf_var 0))) (pfb_nil))
    (pfb_cons (pfs_asg (pf_callC c_split hr l_split (by rfl) (takes_of rfl rfl rfl rfl) (pfa_cons (pf_var 0) (pfa_cons (pf_ix (pf_var 1) (pf_int)) (pfa_nil)))) (pfg_tup rfl (pfgs_cons (pfg_name (i := 2) sc_less.nd rfl (Or.inl rfl)) (pfgs_cons (pfg_name (i := 3) sc_less.nd rfl (Or.inl rfl)) (pfgs_cons (pfg_name (i := 4) sc_less.nd rfl (Or.inl rfl)) (pfgs_nil))))))
    (pfb_one (pfs_ret (pf_callC c_behind hr l_behind (by rfl) (takes_of rfl rfl rfl rfl) (pfa_cons (pf_callC c_less hr l_less (by rfl) (takes_of rfl rfl rfl rfl) (pfa_cons (pf_var 2) (pfa_cons (pf_ix (pf_var 1) (pf_int)) (pfa_nil)))) (pfa_cons (pf_callC c_less hr l_less (by rfl) (takes_of rfl rfl rfl rfl) (pfa_cons (pf_var 4) (pfa_cons (pf_ix (pf_var 1) (pf_int)) (pfa_nil)))) (pfa_nil)))))))
abbrev st_pairs : Stmt := topS 23
theorem sc_pairs : FnScope ["tree", "found", "left"] ["tree"] (defScope st_pairs) :=
  ⟨rfl, rfl, rfl, by decide +kernel, rfl, by decide +kernel, by decide +kernel⟩
structure T_pairs (K : PySem.W.Frag) (mg : Str → Option Value) : Prop where
  b_tuple : mg "tuple" = none
set_option maxHeartbeats 4000000 in
theorem d_pairs {P : Program} {w : World} {K : PySem.W.Frag} {mg : Str → Option Value} {base : Heap} {f : Addr} {cdv : Value} {A : Around} {outer : List Env} {s : Shared} {H : Hp} {E : XK} {k : Nat} (T : T_pairs K mg)
    (hr : Room k (A.deeper (PyProof.Rows.envOfC "pairs" (defScope st_pairs) s.heap.objs.size f cdv))) :
    PFB (cxOf (L2.CX P w) P w K mg base ["tree", "found", "left"] "pairs" (defScope st_pairs) f cdv A outer s H E) (fun c d _ H => E c d H) (defBody st_pairs) (f_pairs) :=
  pfb_cons (pfs_par (i := 1) (j := 2) rfl sc_pairs.nd rfl rfl (by decide) rfl rfl (pfa_cons (pf_lst true (pfa_nil)) (pfa_cons (pf_lst true (pfa_nil)) (pfa_nil))) (by rfl))
    (pfb_cons (pfs_while 100000 (passes_of rfl) (pft_w (pfw_or (pft_cmp op_notN opd_isnot (pf_var 0) (pf_non) (nomark _)) (pfw_or1 (pft_cmp (op_neD hr.units) opd_ne (pf_var 2) (pf_lst false (pfa_nil)) (nomark _))))) (pfb_cons (pfs_while 100000 (passes_of rfl) (pft_cmp op_notN opd_isnot (pf_var 0) (pf_non) (nomark _)) (pfb_cons (pfs_expr (pf_bm PySem.F.plainAttrs_list PySem.F.slot_list_append PySem.F.type_list_append mt_append md_append (pf_var 2) (pfa_cons (pf_var 0) (pfa_nil))))
    (pfb_one (pfs_set (i := 0) sc_pairs.nd rfl (Or.inl rfl) (pf_ix (pf_var 0) (pf_int))))))
    (pfb_cons (pfs_set (i := 0) sc_pairs.nd rfl (Or.inl rfl) (pf_bm0 PySem.F.plainAttrs_list PySem.F.slot_list_pop PySem.F.type_list_pop mt_pop md_pop (pf_var 2)))
    (pfb_cons (pfs_expr (pf_bm PySem.F.plainAttrs_list PySem.F.slot_list_append PySem.F.type_list_append mt_append md_append (pf_var 1) (pfa_cons (pf_tup (pfa_cons (pf_ix (pf_var 0) (pf_int)) (pfa_cons (pf_ix (pf_var 0) (pf_int)) (pfa_nil)))) (pfa_nil))))
    (pfb_one (pfs_set (i := 0) sc_pairs.nd rfl (Or.inl rfl) (pf_ix (pf_var 0) (pf_int))))))))
    (pfb_one (pfs_ret (pf_callTy call_tuple_of cd_tuple (by rfl) T.b_tuple (pfa_cons (pf_var 1) (pfa_nil))))))
abbrev st_look : Stmt := topS 24
theorem sc_look : FnScope ["tree", "left", "number", "here", "row", "k", "key", "what"] ["tree"] (defScope st_look) :=
  ⟨rfl, rfl, rfl, by decide +kernel, rfl, by decide +kernel, by decide +kernel⟩
structure T_look (K : PySem.W.Frag) (mg : Str → Option Value) : Prop where
  b_abs : mg "abs" = none
  b_len : mg "len" = none
  b_range : mg "range" = none
set_option maxHeartbeats 4000000 in
theorem d_look {P : Program} {w : World} {K : PySem.W.Frag} {mg : Str → Option Value} {base : Heap} {f : Addr} {cdv : Value} {A : Around} {outer : List Env} {s : Shared} {H : Hp} {E : XK} {k : Nat} {F_node F_height F_pairs : FN} {k_node k_height k_pairs : Nat} (T : T_look K mg)
    (c_node : Cal P w K mg base "node" ["left", "key", "what", "right"] k_node F_node) (l_node : k_node ≤ k)
    (c_height : Cal P w K mg base "height" ["tree"] k_height F_height) (l_height : k_height ≤ k)
    (c_pairs : Cal P w K mg base "pairs" ["tree"] k_pairs F_pairs) (l_pairs : k_pairs ≤ k)
    (hr : Room k (A.deeper (PyProof.Rows.envOfC "look" (defScope st_look) s.heap.objs.size f cdv))) :
    PFB (cxOf (L2.CX P w) P w K mg base ["tree", "left", "number", "here", "row", "k", "key", "what"] "look" (defScope st_look) f cdv A outer s H E) (fun c d _ H => E c d H) (defBody st_look) (f_look F_node F_height F_pairs) :=
  pfb_cons (pfs_par (i := 1) (j := 2) rfl sc_look.nd rfl rfl (by decide) rfl rfl (pfa_cons (pf_lst true (pfa_cons (pf_var 0) (pfa_nil))) (pfa_cons (pf_int) (pfa_nil))) (by rfl))
    (pfb_cons (pfs_while 100000 (passes_of rfl) (pft_cmp (op_neD hr.units) opd_ne (pf_var 1) (pf_lst false (pfa_nil)) (nomark _)) (pfb_cons (pfs_set (i := 3) sc_look.nd rfl (Or.inl rfl) (pf_bm0 PySem.F.plainAttrs_list PySem.F.slot_list_pop PySem.F.type_list_pop mt_pop md_pop (pf_var 1)))
    (pfb_one (pfs_if (pft_cmp op_notN opd_isnot (pf_var 3) (pf_non) (nomark _)) (pfb_cons (pfs_if (pft_w (pfw_or (pft_cmp (op_neD hr.units) opd_ne (pf_sl false (pf_var 3) (pfo_none) (pfo_some (pf_int))) (pf_callC c_node hr l_node (by rfl) (takes_of rfl rfl rfl rfl) (pfa_cons (pf_ix (pf_var 3) (pf_int)) (pfa_cons (pf_ix (pf_var 3) (pf_int)) (pfa_cons (pf_ix (pf_var 3) (pf_int)) (pfa_cons (pf_ix (pf_var 3) (pf_int)) (pfa_nil)))))) (nomark _)) (pfw_or1 (pft_cmp (op_gtA hr.units0) opd_gtA (pf_callB call_abs cd_abs (by rfl) T.b_abs (pfa_cons (pf_op op_sub opd_sub (pf_callC c_height hr l_height (by rfl) (takes_of rfl rfl rfl rfl) (pfa_cons (pf_ix (pf_var 3) (pf_int)) (pfa_nil))) (pf_callC c_height hr l_height (by rfl) (takes_of rfl rfl rfl rfl) (pfa_cons (pf_ix (pf_var 3) (pf_int)) (pfa_nil)))) (pfa_nil))) (pf_int) (nomark _))))) (pfb_one (pfs_dead)) (pfb_nil))
    (pfb_cons (pfs_aug (i := 2) sc_look.nd rfl (Or.inl rfl) iop_add opd_I (pf_int))
    (pfb_one (pfs_expr (pf_bm PySem.F.plainAttrs_list PySem.F.slot_list_extend PySem.F.type_list_extend mt_extend md_extend (pf_var 1) (pfa_cons (pf_lst false (pfa_cons (pf_ix (pf_var 3) (pf_int)) (pfa_cons (pf_ix (pf_var 3) (pf_int)) (pfa_nil)))) (pfa_nil))))))) (pfb_nil)))))
    (pfb_cons (pfs_lc 100000 false [("key", 6), ("what", 7)] (i := 4) rfl sc_look.nd rfl rfl (sw_true rfl rfl rfl (by decide +kernel)) (own_pair 6 7) (wipe_wipe2 _ _) (pfi_seq (pf_callC c_pairs hr l_pairs (by rfl) (takes_of rfl rfl rfl rfl) (pfa_cons (pf_var 0) (pfa_nil)))) (blkOk_by (own := [("key", 6), ("what", 7)]) (N := ["tree", "left", "number", "here", "row", "k", "key", "what"]) (sc := defScope st_look) (by decide +kernel)) (fun _ _ _ _ _ => pg_tup rfl (pgs_cons (pg_name (i := 6) sc_look.nd rfl (Or.inl rfl)) (pgs_cons (pg_name (i := 7) sc_look.nd rfl (Or.inl rfl)) pgs_nil))) (fun _ _ _ _ _ => pfts_nil) (fun _ _ _ _ _ => pf_var 6))
    (pfb_one (pfs_for 100000 (passes_of rfl) rfl (pfi_range1 (by rfl) T.b_range (pfa_cons (pf_op op_sub opd_sub (pf_callB call_lenA cd_len (by rfl) T.b_len (pfa_cons (pf_var 4) (pfa_nil))) (pf_int)) (pfa_nil))) (pfg_name (i := 5) sc_look.nd rfl (Or.inl rfl)) (pfb_one (pfs_if (pft_cmp op_ge opd_ge (pf_ix (pf_var 4) (pf_var 5)) (pf_ix (pf_var 4) (pf_op op_addA (opd_add false) (pf_var 5) (pf_int))) (nomark _)) (pfb_one (pfs_dead)) (pfb_nil)))))))
abbrev st__law_dice : Stmt := topS 26
theorem sc__law_dice : FnScope ["cell"] ["cell"] (defScope st__law_dice) :=
  ⟨rfl, rfl, rfl, by decide +kernel, rfl, by decide +kernel, by decide +kernel⟩
structure T__law_dice (K : PySem.W.Frag) (mg : Str → Option Value) : Prop where
  b_abs : mg "abs" = none
  b_int : mg "int" = none
set_option maxHeartbeats 4000000 in
theorem d__law_dice {P : Program} {w : World} {K : PySem.W.Frag} {mg : Str → Option Value} {base : Heap} {f : Addr} {cdv : Value} {A : Around} {outer : List Env} {s : Shared} {H : Hp} {E : XK} {k : Nat} (T : T__law_dice K mg)
    (hr : Room k (A.deeper (PyProof.Rows.envOfC "_law_dice" (defScope st__law_dice) s.heap.objs.size f cdv))) :
    PFB (cxOf (L2.CX P w) P w K mg base ["cell"] "_law_dice" (defScope st__law_dice) f cdv A outer s H E) (fun c d _ H => E c d H) (defBody st__law_dice) (f__law_dice) :=
  pfb_cons (pfs_if (pft_chain (op_ltA hr.units0) opd_lt (op_ltA hr.units0) opd_lt (pf_op op_sub opd_sub (pf_int) (pf_int)) (pf_var 0) (pf_int)) (pfb_one (pfs_ret (pf_lst true (pfa_cons (pf_callB call_abs cd_abs (by rfl) T.b_abs (pfa_cons (pf_var 0) (pfa_nil))) (pfa_cons (pf_int) (pfa_cons (pf_int) (pfa_nil))))))) (pfb_nil))
    (pfb_one (pfs_ret (pf_lst true (pfa_cons (pf_var 0) (pfa_cons (pf_op op_addA (opd_add false) (pf_int) (pf_op op_mod opd_mod (pf_callTy call_int1 cd_int (by rfl) T.b_int (pfa_cons (pf_var 0) (pfa_nil))) (pf_int))) (pfa_cons (pf_callTy call_int1 cd_int (by rfl) T.b_int (pfa_cons (pf_cmp op_ge opd_ge (pf_var 0) (pf_op op_pow opd_pow (pf_int) (pf_int)) (nomark _)) (pfa_nil))) (pfa_nil)))))))
abbrev st__law_roll : Stmt := topS 27
theorem sc__law_roll : FnScope ["dice", "many", "found"] ["dice", "many"] (defScope st__law_roll) :=
  ⟨rfl, rfl, rfl, by decide +kernel, rfl, by decide +kernel, by decide +kernel⟩
structure T__law_roll (K : PySem.W.Frag) (mg : Str → Option Value) : Prop where
  b_int : mg "int" = none
set_option maxHeartbeats 4000000 in
theorem d__law_roll {P : Program} {w : World} {K : PySem.W.Frag} {mg : Str → Option Value} {base : Heap} {f : Addr} {cdv : Value} {A : Around} {outer : List Env} {s : Shared} {H : Hp} {E : XK} {k : Nat} (T : T__law_roll K mg)
    (hr : Room k (A.deeper (PyProof.Rows.envOfC "_law_roll" (defScope st__law_roll) s.heap.objs.size f cdv))) :
    PFB (cxOf (L2.CX P w) P w K mg base ["dice", "many", "found"] "_law_roll" (defScope st__law_roll) f cdv A outer s H E) (fun c d _ H => E c d H) (defBody st__law_roll) (f__law_roll) :=
  pfb_cons (pfs_if (pft_w (pfw_or (pft_cmp (op_eqD hr.units) opd_eq (pf_ix (pf_var 0) (pf_int)) (pf_int) (nomark _)) (pfw_or1 (pft_w (pfw_and (pft_cmp (op_eqD hr.units) opd_eq (pf_ix (pf_var 0) (pf_int)) (pf_int) (nomark _)) (pfw_and1 (pft_cmp (op_gtA hr.units0) opd_gtA (pf_ix (pf_var 0) (pf_int)) (pf_int) (nomark _)))))))) (pfb_cons (pfs_set (i := 2) sc__law_roll.nd rfl (Or.inl rfl) (pf_op op_mod opd_mod (pf_callTy call_int1 cd_int (by rfl) T.b_int (pfa_cons (pf_ix (pf_var 0) (pf_int)) (pfa_nil))) (pf_var 1)))
    (pfb_cons (pfs_asg (pf_op op_fdiv opd_fdiv (pf_ix (pf_var 0) (pf_int)) (pf_var 1)) (pfg_sub (Wx := F0) (pf_var 0) (pf_int)))
    (pfb_one (pfs_ret (pf_var 2))))) (pfb_nil))
    (pfb_cons (pfs_asg (pf_int) (pfg_sub (Wx := F0) (pf_var 0) (pf_int)))
    (pfb_cons (pfs_asg (pf_op op_mod opd_mod (pf_callTy call_int1 cd_int (by rfl) T.b_int (pfa_cons (pf_op op_addA (opd_add false) (pf_op op_addA (opd_add false) (pf_op op_mulA (opd_mul false) (pf_ix (pf_var 0) (pf_int)) (pf_int)) (pf_op op_mulA (opd_mul false) (pf_ix (pf_var 0) (pf_int)) (pf_int))) (pf_int)) (pfa_nil))) (pf_int)) (pfg_sub (Wx := F0) (pf_var 0) (pf_int)))
    (pfb_cons (pfs_asg (pf_op op_addA (opd_add false) (pf_ix (pf_var 0) (pf_int)) (pf_int)) (pfg_sub (Wx := F0) (pf_var 0) (pf_int)))
    (pfb_one (pfs_ret (pf_op op_mod opd_mod (pf_callTy call_int1 cd_int (by rfl) T.b_int (pfa_cons (pf_op op_addA (opd_add false) (pf_op op_fdiv opd_fdiv (pf_ix (pf_var 0) (pf_int)) (pf_int)) (pf_ix (pf_var 0) (pf_int))) (pfa_nil))) (pf_var 1)))))))
abbrev st__law_rounds : Stmt := topS 28
theorem sc__law_rounds : FnScope ["script", "most", "cells", "cell"] ["script", "most"] (defScope st__law_rounds) :=
  ⟨rfl, rfl, rfl, by decide +kernel, rfl, by decide +kernel, by decide +kernel⟩
structure T__law_rounds (K : PySem.W.Frag) (mg : Str → Option Value) : Prop where
  triv : True
set_option maxHeartbeats 4000000 in
theorem d__law_rounds {P : Program} {w : World} {K : PySem.W.Frag} {mg : Str → Option Value} {base : Heap} {f : Addr} {cdv : Value} {A : Around} {outer : List Env} {s : Shared} {H : Hp} {E : XK} {k : Nat} {F__law_dice : FN} {k__law_dice : Nat} (T : T__law_rounds K mg)
    (c__law_dice : Cal P w K mg base "_law_dice" ["cell"] k__law_dice F__law_dice) (l__law_dice : k__law_dice ≤ k)
    (hr : Room k (A.deeper (PyProof.Rows.envOfC "_law_rounds" (defScope st__law_rounds) s.heap.objs.size f cdv))) :
    PFB (cxOf (L2.CX P w) P w K mg base ["script", "most", "cells", "cell"] "_law_rounds" (defScope st__law_rounds) f cdv A outer s H E) (fun c d _ H => E c d H) (defBody st__law_rounds) (f__law_rounds F__law_dice) :=
  pfb_cons (pfs_set (i := 2) sc__law_rounds.nd rfl (Or.inl rfl) (pf_sl false (pf_var 0) (pfo_none) (pfo_some (pf_var 1))))
    (pfb_cons (pfs_if (pft_cmp (op_eqD hr.units) opd_eq (pf_var 2) (pf_lst false (pfa_nil)) (nomark _)) (pfb_one (pfs_set (i := 2) sc__law_rounds.nd rfl (Or.inl rfl) (pf_lst false (pfa_cons (pf_int) (pfa_nil))))) (pfb_nil))
    (pfb_one (pfs_ret (pf_lc 100000 true [("cell", 3)] rfl sc__law_rounds.nd (own_name 3) (wipe_wipe1 _) (pfi_seq (pf_var 2)) (blkOk_by (own := [("cell", 3)]) (N := ["script", "most", "cells", "cell"]) (sc := defScope st__law_rounds) (by decide +kernel)) (fun _ _ _ _ _ => pg_name (i := 3) sc__law_rounds.nd rfl (Or.inl rfl)) (fun _ _ _ _ _ => pfts_nil) (fun _ _ _ _ _ => pf_callC c__law_dice hr l__law_dice (by rfl) takes0 (pfa_cons (pf_var 3) (pfa_nil)))))))
abbrev st__law_row : Stmt := topS 29
theorem sc__law_row : FnScope ["dice", "most", "wide", "k"] ["dice", "most", "wide"] (defScope st__law_row) :=
  ⟨rfl, rfl, rfl, by decide +kernel, rfl, by decide +kernel, by decide +kernel⟩
structure T__law_row (K : PySem.W.Frag) (mg : Str → Option Value) : Prop where
  b_range : mg "range" = none
set_option maxHeartbeats 4000000 in
theorem d__law_row {P : Program} {w : World} {K : PySem.W.Frag} {mg : Str → Option Value} {base : Heap} {f : Addr} {cdv : Value} {A : Around} {outer : List Env} {s : Shared} {H : Hp} {E : XK} {k : Nat} {F__law_roll : FN} {k__law_roll : Nat} (T : T__law_row K mg)
    (c__law_roll : Cal P w K mg base "_law_roll" ["dice", "many"] k__law_roll F__law_roll) (l__law_roll : k__law_roll ≤ k)
    (hr : Room k (A.deeper (PyProof.Rows.envOfC "_law_row" (defScope st__law_row) s.heap.objs.size f cdv))) :
    PFB (cxOf (L2.CX P w) P w K mg base ["dice", "most", "wide", "k"] "_law_row" (defScope st__law_row) f cdv A outer s H E) (fun c d _ H => E c d H) (defBody st__law_row) (f__law_row F__law_roll) :=
  pfb_one (pfs_ret (pf_lc 100000 false [("k", 3)] rfl sc__law_row.nd (own_name 3) (wipe_wipe1 _) (pfi_range1 (by rfl) T.b_range (pfa_cons (pf_callC c__law_roll hr l__law_roll (by rfl) (takes_of rfl rfl rfl rfl) (pfa_cons (pf_var 0) (pfa_cons (pf_op op_addA (opd_add false) (pf_var 1) (pf_int)) (pfa_nil)))) (pfa_nil))) (blkOk_by (own := [("k", 3)]) (N := ["dice", "most", "wide", "k"]) (sc := defScope st__law_row) (by decide +kernel)) (fun _ _ _ _ _ => pg_name (i := 3) sc__law_row.nd rfl (Or.inl rfl)) (fun _ _ _ _ _ => pfts_nil) (fun _ _ _ _ _ => pf_op op_sub opd_sub (pf_callC c__law_roll hr l__law_roll (by rfl) takes0 (pfa_cons (pf_var 0) (pfa_cons (pf_op op_addA (opd_add false) (pf_op op_mulA (opd_mul false) (pf_int) (pf_var 2)) (pf_int)) (pfa_nil)))) (pf_var 2))))
abbrev st__law_tree : Stmt := topS 30
theorem sc__law_tree : FnScope ["row", "tree", "key"] ["row"] (defScope st__law_tree) :=
  ⟨rfl, rfl, rfl, by decide +kernel, rfl, by decide +kernel, by decide +kernel⟩
structure T__law_tree (K : PySem.W.Frag) (mg : Str → Option Value) : Prop where
  triv : True
set_option maxHeartbeats 4000000 in
theorem d__law_tree {P : Program} {w : World} {K : PySem.W.Frag} {mg : Str → Option Value} {base : Heap} {f : Addr} {cdv : Value} {A : Around} {outer : List Env} {s : Shared} {H : Hp} {E : XK} {k : Nat} {F_put : FN} {k_put : Nat} (T : T__law_tree K mg)
    (c_put : Cal P w K mg base "put" ["tree", "key", "what"] k_put F_put) (l_put : k_put ≤ k)
    (hr : Room k (A.deeper (PyProof.Rows.envOfC "_law_tree" (defScope st__law_tree) s.heap.objs.size f cdv))) :
    PFB (cxOf (L2.CX P w) P w K mg base ["row", "tree", "key"] "_law_tree" (defScope st__law_tree) f cdv A outer s H E) (fun c d _ H => E c d H) (defBody st__law_tree) (f__law_tree F_put) :=
  pfb_cons (pfs_set (i := 1) sc__law_tree.nd rfl (Or.inl rfl) (pf_non))
    (pfb_cons (pfs_for 100000 (passes_of rfl) rfl (pfi_seq (pf_var 0)) (pfg_name (i := 2) sc__law_tree.nd rfl (Or.inl rfl)) (pfb_one (pfs_set (i := 1) sc__law_tree.nd rfl (Or.inl rfl) (pf_callC c_put hr l_put (by rfl) (takes_of rfl rfl rfl rfl) (pfa_cons (pf_var 1) (pfa_cons (pf_var 2) (pfa_cons (pf_str) (pfa_nil))))))))
    (pfb_one (pfs_ret (pf_var 1))))
abbrev st__law_keys : Stmt := topS 31
theorem sc__law_keys : FnScope ["tree", "key", "what"] ["tree"] (defScope st__law_keys) :=
  ⟨rfl, rfl, rfl, by decide +kernel, rfl, by decide +kernel, by decide +kernel⟩
structure T__law_keys (K : PySem.W.Frag) (mg : Str → Option Value) : Prop where
  triv : True
set_option maxHeartbeats 4000000 in
theorem d__law_keys {P : Program} {w : World} {K : PySem.W.Frag} {mg : Str → Option Value} {base : Heap} {f : Addr} {cdv : Value} {A : Around} {outer : List Env} {s : Shared} {H : Hp} {E : XK} {k : Nat} {F_look F_pairs : FN} {k_look k_pairs : Nat} (T : T__law_keys K mg)
    (c_look : Cal P w K mg base "look" ["tree"] k_look F_look) (l_look : k_look ≤ k)
    (c_pairs : Cal P w K mg base "pairs" ["tree"] k_pairs F_pairs) (l_pairs : k_pairs ≤ k)
    (hr : Room k (A.deeper (PyProof.Rows.envOfC "_law_keys" (defScope st__law_keys) s.heap.objs.size f cdv))) :
    PFB (cxOf (L2.CX P w) P w K mg base ["tree", "key", "what"] "_law_keys" (defScope st__law_keys) f cdv A outer s H E) (fun c d _ H => E c d H) (defBody st__law_keys) (f__law_keys F_look F_pairs) :=
  pfb_cons (pfs_expr (pf_callC c_look hr l_look (by rfl) (takes_of rfl rfl rfl rfl) (pfa_cons (pf_var 0) (pfa_nil))))
    (pfb_one (pfs_ret (pf_lc 100000 false [("key", 1), ("what", 2)] rfl sc__law_keys.nd (own_pair 1 2) (wipe_wipe2 _ _) (pfi_seq (pf_callC c_pairs hr l_pairs (by rfl) (takes_of rfl rfl rfl rfl) (pfa_cons (pf_var 0) (pfa_nil)))) (blkOk_by (own := [("key", 1), ("what", 2)]) (N := ["tree", "key", "what"]) (sc := defScope st__law_keys) (by decide +kernel)) (fun _ _ _ _ _ => pg_tup rfl (pgs_cons (pg_name (i := 1) sc__law_keys.nd rfl (Or.inl rfl)) (pgs_cons (pg_name (i := 2) sc__law_keys.nd rfl (Or.inl rfl)) pgs_nil))) (fun _ _ _ _ _ => pfts_nil) (fun _ _ _ _ _ => pf_var 1))))
abbrev st_law : Stmt := topS 32
theorem sc_law : FnScope ["script", "dice", "a", "b", "c", "either", "both", "key", "low", "told", "high", "k"] ["script"] (defScope st_law) :=
  ⟨rfl, rfl, rfl, by decide +kernel, rfl, by decide +kernel, by decide +kernel⟩
structure T_law (K : PySem.W.Frag) (mg : Str → Option Value) : Prop where
  b_int : mg "int" = none
  b_range : mg "range" = none
  b_sorted : mg "sorted" = none
set_option maxHeartbeats 4000000 in
theorem d_law {P : Program} {w : World} {K : PySem.W.Frag} {mg : Str → Option Value} {base : Heap} {f : Addr} {cdv : Value} {A : Around} {outer : List Env} {s : Shared} {H : Hp} {E : XK} {k : Nat} {F__law_rounds F__law_tree F__law_row F_shared F_put_together F__law_keys F_less F__law_roll F_split F_joined : FN} {k__law_rounds k__law_tree k__law_row k_shared k_put_together k__law_keys k_less k__law_roll k_split k_joined : Nat} (T : T_law K mg)
    (c__law_rounds : Cal P w K mg base "_law_rounds" ["script", "most"] k__law_rounds F__law_rounds) (l__law_rounds : k__law_rounds ≤ k)
    (c__law_tree : Cal P w K mg base "_law_tree" ["row"] k__law_tree F__law_tree) (l__law_tree : k__law_tree ≤ k)
    (c__law_row : Cal P w K mg base "_law_row" ["dice", "most", "wide"] k__law_row F__law_row) (l__law_row : k__law_row ≤ k)
    (c_shared : Cal P w K mg base "shared" ["one", "other"] k_shared F_shared) (l_shared : k_shared ≤ k)
    (c_put_together : Cal P w K mg base "put_together" ["one", "other"] k_put_together F_put_together) (l_put_together : k_put_together ≤ k)
    (c__law_keys : Cal P w K mg base "_law_keys" ["tree"] k__law_keys F__law_keys) (l__law_keys : k__law_keys ≤ k)
    (c_less : Cal P w K mg base "less" ["one", "other"] k_less F_less) (l_less : k_less ≤ k)
    (c__law_roll : Cal P w K mg base "_law_roll" ["dice", "many"] k__law_roll F__law_roll) (l__law_roll : k__law_roll ≤ k)
    (c_split : Cal P w K mg base "split" ["tree", "key"] k_split F_split) (l_split : k_split ≤ k)
    (c_joined : Cal P w K mg base "joined" ["left", "key", "what", "right"] k_joined F_joined) (l_joined : k_joined ≤ k)
    (hr : Room k (A.deeper (PyProof.Rows.envOfC "law" (defScope st_law) s.heap.objs.size f cdv))) :
    PFB (cxOf (L2.CX P w) P w K mg base ["script", "dice", "a", "b", "c", "either", "both", "key", "low", "told", "high", "k"] "law" (defScope st_law) f cdv A outer s H E) (fun c d _ H => E c d H) (defBody st_law) (f_law F__law_rounds F__law_tree F__law_row F_shared F_put_together F__law_keys F_less F__law_roll F_split F_joined) :=
  pfb_cons (pfs_for 100000 (passes_of rfl) rfl (pfi_seq (pf_callC c__law_rounds hr l__law_rounds (by rfl) (takes_of rfl rfl rfl rfl) (pfa_cons (pf_var 0) (pfa_cons (pf_int) (pfa_nil))))) (pfg_name (i := 1) sc_law.nd rfl (Or.inr rfl)) (pfb_cons (pfs_asg (pf_lc 100000 false [("k", 11)] rfl sc_law.nd (own_name 11) (wipe_wipe1 _) (pfi_range1 (by rfl) T.b_range (pfa_cons (pf_int) (pfa_nil))) (blkOk_by (own := [("k", 11)]) (N := ["script", "dice", "a", "b", "c", "either", "both", "key", "low", "told", "high", "k"]) (sc := defScope st_law) (by decide +kernel)) (fun _ _ _ _ _ => pg_name (i := 11) sc_law.nd rfl (Or.inl rfl)) (fun _ _ _ _ _ => pfts_nil) (fun _ _ _ _ _ => pf_callC c__law_tree hr l__law_tree (by rfl) takes0 (pfa_cons (pf_callC c__law_row hr l__law_row (by rfl) takes0 (pfa_cons (pf_var 1) (pfa_cons (pf_int) (pfa_cons (pf_int) (pfa_nil))))) (pfa_nil)))) (pfg_lst rfl (pfgs_cons (pfg_name (i := 2) sc_law.nd rfl (Or.inl rfl)) (pfgs_cons (pfg_name (i := 3) sc_law.nd rfl (Or.inl rfl)) (pfgs_cons (pfg_name (i := 4) sc_law.nd rfl (Or.inl rfl)) (pfgs_nil))))))
    (pfb_cons (pfs_par (i := 5) (j := 6) rfl sc_law.nd rfl rfl (by decide) rfl rfl (pfa_cons (pf_callC c_put_together hr l_put_together (by rfl) (takes_of rfl rfl rfl rfl) (pfa_cons (pf_var 2) (pfa_cons (pf_var 3) (pfa_nil)))) (pfa_cons (pf_callC c_shared hr l_shared (by rfl) (takes_of rfl rfl rfl rfl) (pfa_cons (pf_var 2) (pfa_cons (pf_var 3) (pfa_nil)))) (pfa_nil))) (by rfl))
    (pfb_cons (pfs_if (pft_w (pfw_or (pft_cmp (op_neD hr.units) opd_ne (pf_callC c__law_keys hr l__law_keys (by rfl) (takes_of rfl rfl rfl rfl) (pfa_cons (pf_var 5) (pfa_nil))) (pf_callC c__law_keys hr l__law_keys (by rfl) (takes_of rfl rfl rfl rfl) (pfa_cons (pf_callC c_put_together hr l_put_together (by rfl) (takes_of rfl rfl rfl rfl) (pfa_cons (pf_var 3) (pfa_cons (pf_var 2) (pfa_nil)))) (pfa_nil))) (nomark _)) (pfw_or1 (pft_cmp (op_neD hr.units) opd_ne (pf_callC c__law_keys hr l__law_keys (by rfl) (takes_of rfl rfl rfl rfl) (pfa_cons (pf_var 6) (pfa_nil))) (pf_callC c__law_keys hr l__law_keys (by rfl) (takes_of rfl rfl rfl rfl) (pfa_cons (pf_callC c_shared hr l_shared (by rfl) (takes_of rfl rfl rfl rfl) (pfa_cons (pf_var 3) (pfa_cons (pf_var 2) (pfa_nil)))) (pfa_nil))) (nomark _))))) (pfb_one (pfs_ret (pf_bl))) (pfb_nil))
    (pfb_cons (pfs_if (pft_cmp (op_neD hr.units) opd_ne (pf_callC c__law_keys hr l__law_keys (by rfl) (takes_of rfl rfl rfl rfl) (pfa_cons (pf_callC c_put_together hr l_put_together (by rfl) (takes_of rfl rfl rfl rfl) (pfa_cons (pf_var 5) (pfa_cons (pf_var 4) (pfa_nil)))) (pfa_nil))) (pf_callC c__law_keys hr l__law_keys (by rfl) (takes_of rfl rfl rfl rfl) (pfa_cons (pf_callC c_put_together hr l_put_together (by rfl) (takes_of rfl rfl rfl rfl) (pfa_cons (pf_var 2) (pfa_cons (pf_callC c_put_together hr l_put_together (by rfl) (takes_of rfl rfl rfl rfl) (pfa_cons (pf_var 3) (pfa_cons (pf_var 4) (pfa_nil)))) (pfa_nil)))) (pfa_nil))) (nomark _)) (pfb_one (pfs_ret (pf_bl))) (pfb_nil))
    (pfb_cons (pfs_if (pft_cmp (op_neD hr.units) opd_ne (pf_callC c__law_keys hr l__law_keys (by rfl) (takes_of rfl rfl rfl rfl) (pfa_cons (pf_callC c_shared hr l_shared (by rfl) (takes_of rfl rfl rfl rfl) (pfa_cons (pf_var 6) (pfa_cons (pf_var 4) (pfa_nil)))) (pfa_nil))) (pf_callC c__law_keys hr l__law_keys (by rfl) (takes_of rfl rfl rfl rfl) (pfa_cons (pf_callC c_shared hr l_shared (by rfl) (takes_of rfl rfl rfl rfl) (pfa_cons (pf_var 2) (pfa_cons (pf_callC c_shared hr l_shared (by rfl) (takes_of rfl rfl rfl rfl) (pfa_cons (pf_var 3) (pfa_cons (pf_var 4) (pfa_nil)))) (pfa_nil)))) (pfa_nil))) (nomark _)) (pfb_one (pfs_ret (pf_bl))) (pfb_nil))
    (pfb_cons (pfs_if (pft_cmp (op_neD hr.units) opd_ne (pf_callC c__law_keys hr l__law_keys (by rfl) (takes_of rfl rfl rfl rfl) (pfa_cons (pf_callC c_shared hr l_shared (by rfl) (takes_of rfl rfl rfl rfl) (pfa_cons (pf_var 2) (pfa_cons (pf_callC c_put_together hr l_put_together (by rfl) (takes_of rfl rfl rfl rfl) (pfa_cons (pf_var 3) (pfa_cons (pf_var 4) (pfa_nil)))) (pfa_nil)))) (pfa_nil))) (pf_callC c__law_keys hr l__law_keys (by rfl) (takes_of rfl rfl rfl rfl) (pfa_cons (pf_callC c_put_together hr l_put_together (by rfl) (takes_of rfl rfl rfl rfl) (pfa_cons (pf_var 6) (pfa_cons (pf_callC c_shared hr l_shared (by rfl) (takes_of rfl rfl rfl rfl) (pfa_cons (pf_var 2) (pfa_cons (pf_var 4) (pfa_nil)))) (pfa_nil)))) (pfa_nil))) (nomark _)) (pfb_one (pfs_ret (pf_bl))) (pfb_nil))
    (pfb_cons (pfs_if (pft_cmp (op_neD hr.units) opd_ne (pf_callC c__law_keys hr l__law_keys (by rfl) (takes_of rfl rfl rfl rfl) (pfa_cons (pf_callC c_less hr l_less (by rfl) (takes_of rfl rfl rfl rfl) (pfa_cons (pf_var 2) (pfa_cons (pf_callC c_put_together hr l_put_together (by rfl) (takes_of rfl rfl rfl rfl) (pfa_cons (pf_var 3) (pfa_cons (pf_var 4) (pfa_nil)))) (pfa_nil)))) (pfa_nil))) (pf_callC c__law_keys hr l__law_keys (by rfl) (takes_of rfl rfl rfl rfl) (pfa_cons (pf_callC c_less hr l_less (by rfl) (takes_of rfl rfl rfl rfl) (pfa_cons (pf_callC c_less hr l_less (by rfl) (takes_of rfl rfl rfl rfl) (pfa_cons (pf_var 2) (pfa_cons (pf_var 3) (pfa_nil)))) (pfa_cons (pf_var 4) (pfa_nil)))) (pfa_nil))) (nomark _)) (pfb_one (pfs_ret (pf_bl))) (pfb_nil))
    (pfb_cons (pfs_if (pft_cmp (op_neD hr.units) opd_ne (pf_callC c__law_keys hr l__law_keys (by rfl) (takes_of rfl rfl rfl rfl) (pfa_cons (pf_callC c_less hr l_less (by rfl) (takes_of rfl rfl rfl rfl) (pfa_cons (pf_callC c_less hr l_less (by rfl) (takes_of rfl rfl rfl rfl) (pfa_cons (pf_var 2) (pfa_cons (pf_var 3) (pfa_nil)))) (pfa_cons (pf_var 3) (pfa_nil)))) (pfa_nil))) (pf_callC c__law_keys hr l__law_keys (by rfl) (takes_of rfl rfl rfl rfl) (pfa_cons (pf_callC c_less hr l_less (by rfl) (takes_of rfl rfl rfl rfl) (pfa_cons (pf_var 2) (pfa_cons (pf_var 3) (pfa_nil)))) (pfa_nil))) (nomark _)) (pfb_one (pfs_ret (pf_bl))) (pfb_nil))
    (pfb_cons (pfs_if (pft_w (pfw_or (pft_cmp (op_neD hr.units) opd_ne (pf_callC c__law_keys hr l__law_keys (by rfl) (takes_of rfl rfl rfl rfl) (pfa_cons (pf_callC c_put_together hr l_put_together (by rfl) (takes_of rfl rfl rfl rfl) (pfa_cons (pf_callC c_less hr l_less (by rfl) (takes_of rfl rfl rfl rfl) (pfa_cons (pf_var 2) (pfa_cons (pf_var 3) (pfa_nil)))) (pfa_cons (pf_var 6) (pfa_nil)))) (pfa_nil))) (pf_callC c__law_keys hr l__law_keys (by rfl) (takes_of rfl rfl rfl rfl) (pfa_cons (pf_var 2) (pfa_nil))) (nomark _)) (pfw_or1 (pft_cmp (op_neD hr.units) opd_ne (pf_callC c__law_keys hr l__law_keys (by rfl) (takes_of rfl rfl rfl rfl) (pfa_cons (pf_callC c_shared hr l_shared (by rfl) (takes_of rfl rfl rfl rfl) (pfa_cons (pf_callC c_less hr l_less (by rfl) (takes_of rfl rfl rfl rfl) (pfa_cons (pf_var 2) (pfa_cons (pf_var 3) (pfa_nil)))) (pfa_cons (pf_var 3) (pfa_nil)))) (pfa_nil))) (pf_lst false (pfa_nil)) (nomark _))))) (pfb_one (pfs_ret (pf_bl))) (pfb_nil))
    (pfb_cons (pfs_if (pft_w (pfw_or (pft_cmp (op_neD hr.units) opd_ne (pf_callC c__law_keys hr l__law_keys (by rfl) (takes_of rfl rfl rfl rfl) (pfa_cons (pf_callC c_put_together hr l_put_together (by rfl) (takes_of rfl rfl rfl rfl) (pfa_cons (pf_var 2) (pfa_cons (pf_var 2) (pfa_nil)))) (pfa_nil))) (pf_callC c__law_keys hr l__law_keys (by rfl) (takes_of rfl rfl rfl rfl) (pfa_cons (pf_var 2) (pfa_nil))) (nomark _)) (pfw_or1 (pft_cmp (op_neD hr.units) opd_ne (pf_callC c__law_keys hr l__law_keys (by rfl) (takes_of rfl rfl rfl rfl) (pfa_cons (pf_callC c_less hr l_less (by rfl) (takes_of rfl rfl rfl rfl) (pfa_cons (pf_var 2) (pfa_cons (pf_var 2) (pfa_nil)))) (pfa_nil))) (pf_lst false (pfa_nil)) (nomark _))))) (pfb_one (pfs_ret (pf_bl))) (pfb_nil))
    (pfb_cons (pfs_if (pft_cmp (op_neD hr.units) opd_ne (pf_callC c__law_keys hr l__law_keys (by rfl) (takes_of rfl rfl rfl rfl) (pfa_cons (pf_callC c_shared hr l_shared (by rfl) (takes_of rfl rfl rfl rfl) (pfa_cons (pf_var 2) (pfa_cons (pf_var 2) (pfa_nil)))) (pfa_nil))) (pf_callC c__law_keys hr l__law_keys (by rfl) (takes_of rfl rfl rfl rfl) (pfa_cons (pf_var 2) (pfa_nil))) (nomark _)) (pfb_one (pfs_ret (pf_bl))) (pfb_nil))
    (pfb_cons (pfs_set (i := 7) sc_law.nd rfl (Or.inl rfl) (pf_op op_sub opd_sub (pf_callC c__law_roll hr l__law_roll (by rfl) (takes_of rfl rfl rfl rfl) (pfa_cons (pf_var 1) (pfa_cons (pf_int) (pfa_nil)))) (pf_int)))
    (pfb_cons (pfs_asg (pf_callC c_split hr l_split (by rfl) (takes_of rfl rfl rfl rfl) (pfa_cons (pf_var 2) (pfa_cons (pf_var 7) (pfa_nil)))) (pfg_tup rfl (pfgs_cons (pfg_name (i := 8) sc_law.nd rfl (Or.inl rfl)) (pfgs_cons (pfg_name (i := 9) sc_law.nd rfl (Or.inl rfl)) (pfgs_cons (pfg_name (i := 10) sc_law.nd rfl (Or.inl rfl)) (pfgs_nil))))))
    (pfb_cons (pfs_if (pft_cmp (op_neD hr.units) opd_ne (pf_op op_addA (opd_add false) (pf_op op_addA (opd_add false) (pf_callC c__law_keys hr l__law_keys (by rfl) (takes_of rfl rfl rfl rfl) (pfa_cons (pf_var 8) (pfa_nil))) (pf_op op_mulA (opd_mul false) (pf_lst false (pfa_cons (pf_var 7) (pfa_nil))) (pf_callTy call_int1 cd_int (by rfl) T.b_int (pfa_cons (pf_cmp op_notN opd_isnot (pf_var 9) (pf_non) (nomark _)) (pfa_nil))))) (pf_callC c__law_keys hr l__law_keys (by rfl) (takes_of rfl rfl rfl rfl) (pfa_cons (pf_var 10) (pfa_nil)))) (pf_callC c__law_keys hr l__law_keys (by rfl) (takes_of rfl rfl rfl rfl) (pfa_cons (pf_var 2) (pfa_nil))) (nomark _)) (pfb_one (pfs_ret (pf_bl))) (pfb_nil))
    (pfb_one (pfs_if (pft_cmp (op_neD hr.units) opd_ne (pf_callC c__law_keys hr l__law_keys (by rfl) (takes_of rfl rfl rfl rfl) (pfa_cons (pf_callC c_joined hr l_joined (by rfl) (takes_of rfl rfl rfl rfl) (pfa_cons (pf_var 8) (pfa_cons (pf_var 7) (pfa_cons (pf_str) (pfa_cons (pf_var 10) (pfa_nil)))))) (pfa_nil))) (pf_callB (cr_sortedI.or cr_sortZ) (cd_sortA false) (by rfl) T.b_sorted (pfa_cons (pf_op op_addA (opd_add false) (pf_callC c__law_keys hr l__law_keys (by rfl) (takes_of rfl rfl rfl rfl) (pfa_cons (pf_var 2) (pfa_nil))) (pf_op op_mulA (opd_mul false) (pf_lst false (pfa_cons (pf_var 7) (pfa_nil))) (pf_callTy call_int1 cd_int (by rfl) T.b_int (pfa_cons (pf_cmp op_isN opd_is (pf_var 9) (pf_non) (nomark _)) (pfa_nil))))) (pfa_nil))) (nomark _)) (pfb_one (pfs_ret (pf_bl))) (pfb_nil))))))))))))))))))
    (pfb_one (pfs_ret (pf_bl)))
section oks
variable {P : Program} {w : World} {K : PySem.W.Frag} {mg : Str → Option Value} {base : Heap} {f : Addr} {fd : FuncData} {C_BadKey : Addr}
theorem ok_is_key (R : Fun K "is_key" "is_key" st_is_key f fd) (T : T_is_key K mg) :
    FnOk P w K mg base (L2.CX P w) 1 f fd ["thing"] (spD K F_is_key 1) :=
  fn_run (k := 0) R sc_is_key (fun cdv A outer s H E hr => d_is_key T hr)
theorem ok_check_key (R : Fun K "check_key" "check_key" st_check_key f fd) (T : T_check_key K mg C_BadKey)
    (c_is_key : Cal P w K mg base "is_key" ["thing"] 1 F_is_key) :
    FnOk P w K mg base (L2.CX P w) 2 f fd ["thing"] (spD K (F_check_key C_BadKey) 1) :=
  fn_run (k := 1) R sc_check_key (fun cdv A outer s H E hr => d_check_key T c_is_key (by decide) hr)
theorem ok_height (R : Fun K "height" "height" st_height f fd) (T : T_height K mg) :
    FnOk P w K mg base (L2.CX P w) 1 f fd ["tree"] (spD K F_height 1) :=
  fn_run (k := 0) R sc_height (fun cdv A outer s H E hr => d_height T hr)
theorem ok_how_many (R : Fun K "how_many" "how_many" st_how_many f fd) (T : T_how_many K mg) :
    FnOk P w K mg base (L2.CX P w) 1 f fd ["tree"] (spD K F_how_many 1) :=
  fn_run (k := 0) R sc_how_many (fun cdv A outer s H E hr => d_how_many T hr)
theorem ok_node (R : Fun K "node" "node" st_node f fd) (T : T_node K mg)
    (c_how_many : Cal P w K mg base "how_many" ["tree"] 1 F_how_many)
    (c_height : Cal P w K mg base "height" ["tree"] 1 F_height) :
    FnOk P w K mg base (L2.CX P w) 2 f fd ["left", "key", "what", "right"] (spD K F_node 4) :=
  fn_run (k := 1) R sc_node (fun cdv A outer s H E hr => d_node T c_how_many (by decide) c_height (by decide) hr)
theorem ok_leaned (R : Fun K "leaned" "leaned" st_leaned f fd) (T : T_leaned K mg)
    (c_height : Cal P w K mg base "height" ["tree"] 1 F_height)
    (c_node : Cal P w K mg base "node" ["left", "key", "what", "right"] 2 F_node) :
    FnOk P w K mg base (L2.CX P w) 3 f fd ["left", "key", "what", "right"] (spD K F_leaned 4) :=
  fn_run (k := 2) R sc_leaned (fun cdv A outer s H E hr => d_leaned T c_height (by decide) c_node (by decide) hr)
theorem ok_put (R : Fun K "put" "put" st_put f fd) (T : T_put K mg)
    (c_check_key : Cal P w K mg base "check_key" ["thing"] 2 (F_check_key C_BadKey))
    (c_node : Cal P w K mg base "node" ["left", "key", "what", "right"] 2 F_node)
    (c_leaned : Cal P w K mg base "leaned" ["left", "key", "what", "right"] 3 F_leaned) (hg : mg "put" = some (.ref f)) (hk : PySem.W.keepIn K (.ref f) = true) (hb : Binds K fd ["tree", "key", "what"] []) :
    ∀ n : Nat, FnOk P w K mg base (L2.CX P w) (3 + n) f fd ["tree", "key", "what"] (spD K (F_put C_BadKey n) 3)
  | 0 => fn_none (fun _ _ => rfl)
  | n + 1 => by
    have ih := ok_put R T c_check_key c_node c_leaned hg hk hb n
    exact fn_run (k := 3 + n) R sc_put (fun cdv A outer s H E hr => d_put T c_check_key (by omega) c_node (by omega) c_leaned (by omega) ⟨f, fd, hg, hk, hb, ih⟩ (by omega) hr)
theorem ok_least (R : Fun K "least" "least" st_least f fd) (T : T_least K mg) :
    FnOk P w K mg base (L2.CX P w) 1 f fd ["tree"] (spD K F_least 1) :=
  fn_run (k := 0) R sc_least (fun cdv A outer s H E hr => d_least T hr)
theorem ok_without_least (R : Fun K "without_least" "without_least" st_without_least f fd) (T : T_without_least K mg)
    (c_leaned : Cal P w K mg base "leaned" ["left", "key", "what", "right"] 3 F_leaned) (hg : mg "without_least" = some (.ref f)) (hk : PySem.W.keepIn K (.ref f) = true) (hb : Binds K fd ["tree"] []) :
    ∀ n : Nat, FnOk P w K mg base (L2.CX P w) (3 + n) f fd ["tree"] (spD K (F_without_least n) 1)
  | 0 => fn_none (fun _ _ => rfl)
  | n + 1 => by
    have ih := ok_without_least R T c_leaned hg hk hb n
    exact fn_run (k := 3 + n) R sc_without_least (fun cdv A outer s H E hr => d_without_least T c_leaned (by omega) ⟨f, fd, hg, hk, hb, ih⟩ (by omega) hr)
theorem ok_joined (R : Fun K "joined" "joined" st_joined f fd) (T : T_joined K mg)
    (c_height : Cal P w K mg base "height" ["tree"] 1 F_height)
    (c_leaned : Cal P w K mg base "leaned" ["left", "key", "what", "right"] 3 F_leaned)
    (c_node : Cal P w K mg base "node" ["left", "key", "what", "right"] 2 F_node) (hg : mg "joined" = some (.ref f)) (hk : PySem.W.keepIn K (.ref f) = true) (hb : Binds K fd ["left", "key", "what", "right"] []) :
    ∀ n : Nat, FnOk P w K mg base (L2.CX P w) (3 + n) f fd ["left", "key", "what", "right"] (spD K (F_joined n) 4)
  | 0 => fn_none (fun _ _ => rfl)
  | n + 1 => by
    have ih := ok_joined R T c_height c_leaned c_node hg hk hb n
    exact fn_run (k := 3 + n) R sc_joined (fun cdv A outer s H E hr => d_joined T c_height (by omega) c_leaned (by omega) ⟨f, fd, hg, hk, hb, ih⟩ (by omega) c_node (by omega) hr)
theorem ok_behind (R : Fun K "behind" "behind" st_behind f fd) (T : T_behind K mg)
    (c_least : Cal P w K mg base "least" ["tree"] 1 F_least)
    (c_joined : Cal P w K mg base "joined" ["left", "key", "what", "right"] 43 (F_joined 40))
    (c_without_least : Cal P w K mg base "without_least" ["tree"] 43 (F_without_least 40)) :
    FnOk P w K mg base (L2.CX P w) 44 f fd ["left", "right"] (spD K F_behind 2) :=
  fn_run (k := 43) R sc_behind (fun cdv A outer s H E hr => d_behind T c_least (by decide) c_joined (by decide) c_without_least (by decide) hr)
theorem ok_split (R : Fun K "split" "split" st_split f fd) (T : T_split K mg)
    (c_joined : Cal P w K mg base "joined" ["left", "key", "what", "right"] 43 (F_joined 40)) (hg : mg "split" = some (.ref f)) (hk : PySem.W.keepIn K (.ref f) = true) (hb : Binds K fd ["tree", "key"] []) :
    ∀ n : Nat, FnOk P w K mg base (L2.CX P w) (43 + n) f fd ["tree", "key"] (spD K (F_split n) 2)
  | 0 => fn_none (fun _ _ => rfl)
  | n + 1 => by
    have ih := ok_split R T c_joined hg hk hb n
    exact fn_run (k := 43 + n) R sc_split (fun cdv A outer s H E hr => d_split T ⟨f, fd, hg, hk, hb, ih⟩ (by omega) c_joined (by omega) hr)
theorem ok_put_together (R : Fun K "put_together" "put_together" st_put_together f fd) (T : T_put_together K mg)
    (c_split : Cal P w K mg base "split" ["tree", "key"] 83 (F_split 40))
    (c_joined : Cal P w K mg base "joined" ["left", "key", "what", "right"] 43 (F_joined 40)) (hg : mg "put_together" = some (.ref f)) (hk : PySem.W.keepIn K (.ref f) = true) (hb : Binds K fd ["one", "other"] []) :
    ∀ n : Nat, FnOk P w K mg base (L2.CX P w) (83 + n) f fd ["one", "other"] (spD K (F_put_together n) 2)
  | 0 => fn_none (fun _ _ => rfl)
  | n + 1 => by
    have ih := ok_put_together R T c_split c_joined hg hk hb n
    exact fn_run (k := 83 + n) R sc_put_together (fun cdv A outer s H E hr => d_put_together T c_split (by omega) c_joined (by omega) ⟨f, fd, hg, hk, hb, ih⟩ (by omega) hr)
theorem ok_shared (R : Fun K "shared" "shared" st_shared f fd) (T : T_shared K mg)
    (c_split : Cal P w K mg base "split" ["tree", "key"] 83 (F_split 40))
    (c_behind : Cal P w K mg base "behind" ["left", "right"] 44 F_behind)
    (c_joined : Cal P w K mg base "joined" ["left", "key", "what", "right"] 43 (F_joined 40)) (hg : mg "shared" = some (.ref f)) (hk : PySem.W.keepIn K (.ref f) = true) (hb : Binds K fd ["one", "other"] []) :
    ∀ n : Nat, FnOk P w K mg base (L2.CX P w) (83 + n) f fd ["one", "other"] (spD K (F_shared n) 2)
  | 0 => fn_none (fun _ _ => rfl)
  | n + 1 => by
    have ih := ok_shared R T c_split c_behind c_joined hg hk hb n
    exact fn_run (k := 83 + n) R sc_shared (fun cdv A outer s H E hr => d_shared T c_split (by omega) ⟨f, fd, hg, hk, hb, ih⟩ (by omega) c_behind (by omega) c_joined (by omega) hr)
theorem ok_less (R : Fun K "less" "less" st_less f fd) (T : T_less K mg)
    (c_split : Cal P w K mg base "split" ["tree", "key"] 83 (F_split 40))
    (c_behind : Cal P w K mg base "behind" ["left", "right"] 44 F_behind) (hg : mg "less" = some (.ref f)) (hk : PySem.W.keepIn K (.ref f) = true) (hb : Binds K fd ["one", "other"] []) :
    ∀ n : Nat, FnOk P w K mg base (L2.CX P w) (83 + n) f fd ["one", "other"] (spD K (F_less n) 2)
  | 0 => fn_none (fun _ _ => rfl)
  | n + 1 => by
    have ih := ok_less R T c_split c_behind hg hk hb n
    exact fn_run (k := 83 + n) R sc_less (fun cdv A outer s H E hr => d_less T c_split (by omega) c_behind (by omega) ⟨f, fd, hg, hk, hb, ih⟩ (by omega) hr)
theorem ok_pairs (R : Fun K "pairs" "pairs" st_pairs f fd) (T : T_pairs K mg) :
    FnOk P w K mg base (L2.CX P w) 1 f fd ["tree"] (spD K F_pairs 1) :=
  fn_run (k := 0) R sc_pairs (fun cdv A outer s H E hr => d_pairs T hr)
theorem ok_look (R : Fun K "look" "look" st_look f fd) (T : T_look K mg)
    (c_node : Cal P w K mg base "node" ["left", "key", "what", "right"] 2 F_node)
    (c_height : Cal P w K mg base "height" ["tree"] 1 F_height)
    (c_pairs : Cal P w K mg base "pairs" ["tree"] 1 F_pairs) :
    FnOk P w K mg base (L2.CX P w) 3 f fd ["tree"] (spD K F_look 1) :=
  fn_run (k := 2) R sc_look (fun cdv A outer s H E hr => d_look T c_node (by decide) c_height (by decide) c_pairs (by decide) hr)
theorem ok__law_dice (R : Fun K "_law_dice" "_law_dice" st__law_dice f fd) (T : T__law_dice K mg) :
    FnOk P w K mg base (L2.CX P w) 1 f fd ["cell"] (spD K F__law_dice 1) :=
  fn_run (k := 0) R sc__law_dice (fun cdv A outer s H E hr => d__law_dice T hr)
theorem ok__law_roll (R : Fun K "_law_roll" "_law_roll" st__law_roll f fd) (T : T__law_roll K mg) :
    FnOk P w K mg base (L2.CX P w) 1 f fd ["dice", "many"] (spD K F__law_roll 2) :=
  fn_run (k := 0) R sc__law_roll (fun cdv A outer s H E hr => d__law_roll T hr)
theorem ok__law_rounds (R : Fun K "_law_rounds" "_law_rounds" st__law_rounds f fd) (T : T__law_rounds K mg)
    (c__law_dice : Cal P w K mg base "_law_dice" ["cell"] 1 F__law_dice) :
    FnOk P w K mg base (L2.CX P w) 2 f fd ["script", "most"] (spD K F__law_rounds 2) :=
  fn_run (k := 1) R sc__law_rounds (fun cdv A outer s H E hr => d__law_rounds T c__law_dice (by decide) hr)
theorem ok__law_row (R : Fun K "_law_row" "_law_row" st__law_row f fd) (T : T__law_row K mg)
    (c__law_roll : Cal P w K mg base "_law_roll" ["dice", "many"] 1 F__law_roll) :
    FnOk P w K mg base (L2.CX P w) 2 f fd ["dice", "most", "wide"] (spD K F__law_row 3) :=
  fn_run (k := 1) R sc__law_row (fun cdv A outer s H E hr => d__law_row T c__law_roll (by decide) hr)
theorem ok__law_tree (R : Fun K "_law_tree" "_law_tree" st__law_tree f fd) (T : T__law_tree K mg)
    (c_put : Cal P w K mg base "put" ["tree", "key", "what"] 43 (F_put C_BadKey 40)) :
    FnOk P w K mg base (L2.CX P w) 44 f fd ["row"] (spD K (F__law_tree C_BadKey) 1) :=
  fn_run (k := 43) R sc__law_tree (fun cdv A outer s H E hr => d__law_tree T c_put (by decide) hr)
theorem ok__law_keys (R : Fun K "_law_keys" "_law_keys" st__law_keys f fd) (T : T__law_keys K mg)
    (c_look : Cal P w K mg base "look" ["tree"] 3 F_look)
    (c_pairs : Cal P w K mg base "pairs" ["tree"] 1 F_pairs) :
    FnOk P w K mg base (L2.CX P w) 4 f fd ["tree"] (spD K F__law_keys 1) :=
  fn_run (k := 3) R sc__law_keys (fun cdv A outer s H E hr => d__law_keys T c_look (by decide) c_pairs (by decide) hr)
theorem ok_law (R : Fun K "law" "law" st_law f fd) (T : T_law K mg)
    (c__law_rounds : Cal P w K mg base "_law_rounds" ["script", "most"] 2 F__law_rounds)
    (c__law_tree : Cal P w K mg base "_law_tree" ["row"] 44 (F__law_tree C_BadKey))
    (c__law_row : Cal P w K mg base "_law_row" ["dice", "most", "wide"] 2 F__law_row)
    (c_shared : Cal P w K mg base "shared" ["one", "other"] 123 (F_shared 40))
    (c_put_together : Cal P w K mg base "put_together" ["one", "other"] 123 (F_put_together 40))
    (c__law_keys : Cal P w K mg base "_law_keys" ["tree"] 4 F__law_keys)
    (c_less : Cal P w K mg base "less" ["one", "other"] 123 (F_less 40))
    (c__law_roll : Cal P w K mg base "_law_roll" ["dice", "many"] 1 F__law_roll)
    (c_split : Cal P w K mg base "split" ["tree", "key"] 83 (F_split 40))
    (c_joined : Cal P w K mg base "joined" ["left", "key", "what", "right"] 43 (F_joined 40)) :
    FnOk P w K mg base (L2.CX P w) 124 f fd ["script"] (spD K (F_law C_BadKey) 1) :=
  fn_run (k := 123) R sc_law (fun cdv A outer s H E hr => d_law T c__law_rounds (by decide) c__law_tree (by decide) c__law_row (by decide) c_shared (by decide) c_put_together (by decide) c__law_keys (by decide) c_less (by decide) c__law_roll (by decide) c_split (by decide) c_joined (by decide) hr)
end oks
end Law

namespace Law
open PySem L2 PF
variable [Tab]
set_option maxHeartbeats 4000000 in
theorem all_mk {P : Program} {w : World} {K : PySem.W.Frag} {h : Heap} {mg : Str → Option Value} {fa a_is_key a_check_key a_height a_how_many a_node a_leaned a_put a_least a_without_least a_joined a_behind a_split a_put_together a_shared a_less a_pairs a_look a__law_dice a__law_roll a__law_rounds a__law_row a__law_tree a__law_keys a_law C_BadKey : Addr} {od_is_key an_is_key od_check_key an_check_key od_height an_height od_how_many an_how_many od_node an_node od_leaned an_leaned od_put an_put od_least an_least od_without_least an_without_least od_joined an_joined od_behind an_behind od_split an_split od_put_together an_put_together od_shared an_shared od_less an_less od_pairs an_pairs od_look an_look od__law_dice an__law_dice od__law_roll an__law_roll od__law_rounds an__law_rounds od__law_row an__law_row od__law_tree an__law_tree od__law_keys an__law_keys od_law an_law : Option Addr} {sl_is_key sl_check_key sl_height sl_how_many sl_node sl_leaned sl_put sl_least sl_without_least sl_joined sl_behind sl_split sl_put_together sl_shared sl_less sl_pairs sl_look sl__law_dice sl__law_roll sl__law_rounds sl__law_row sl__law_tree sl__law_keys sl_law : Array (Option Value)} {oc_is_key kV_is_key dc_is_key pm_is_key cd_is_key ct_is_key oc_check_key kV_check_key dc_check_key pm_check_key cd_check_key ct_check_key oc_height kV_height dc_height pm_height cd_height ct_height oc_how_many kV_how_many dc_how_many pm_how_many cd_how_many ct_how_many oc_node kV_node dc_node pm_node cd_node ct_node oc_leaned kV_leaned dc_leaned pm_leaned cd_leaned ct_leaned oc_put kV_put dc_put pm_put cd_put ct_put oc_least kV_least dc_least pm_least cd_least ct_least oc_without_least kV_without_least dc_without_least pm_without_least cd_without_least ct_without_least oc_joined kV_joined dc_joined pm_joined cd_joined ct_joined oc_behind kV_behind dc_behind pm_behind cd_behind ct_behind oc_split kV_split dc_split pm_split cd_split ct_split oc_put_together kV_put_together dc_put_together pm_put_together cd_put_together ct_put_together oc_shared kV_shared dc_shared pm_shared cd_shared ct_shared oc_less kV_less dc_less pm_less cd_less ct_less oc_pairs kV_pairs dc_pairs pm_pairs cd_pairs ct_pairs oc_look kV_look dc_look pm_look cd_look ct_look oc__law_dice kV__law_dice dc__law_dice pm__law_dice cd__law_dice ct__law_dice oc__law_roll kV__law_roll dc__law_roll pm__law_roll cd__law_roll ct__law_roll oc__law_rounds kV__law_rounds dc__law_rounds pm__law_rounds cd__law_rounds ct__law_rounds oc__law_row kV__law_row dc__law_row pm__law_row cd__law_row ct__law_row oc__law_tree kV__law_tree dc__law_tree pm__law_tree cd__law_tree ct__law_tree oc__law_keys kV__law_keys dc__law_keys pm__law_keys cd__law_keys ct__law_keys oc_law kV_law dc_law pm_law cd_law ct_law : Value} {t_FAR : Tok} (X : K.In h) (G : h.Ns mainGlobals mg) (hfa : mg "law" = some (.ref fa))
    (g_is_key : PySem.W.nsIn K mainGlobals "is_key" = some (some (.ref a_is_key)))
    (l_is_key : K.lookup a_is_key = some ⟨oc_is_key, od_is_key, .func (PySem.W.fnOf "is_key" "is_key" (defArgs st_is_key) (defBody st_is_key) (defScope st_is_key) .none kV_is_key dc_is_key pm_is_key an_is_key cd_is_key ct_is_key), sl_is_key⟩)
    (c_is_key : PySem.W.codeIn K cd_is_key "is_key" = true)
    (k_is_key : PySem.W.keepIn K (.ref a_is_key) = true)
    (g_check_key : PySem.W.nsIn K mainGlobals "check_key" = some (some (.ref a_check_key)))
    (l_check_key : K.lookup a_check_key = some ⟨oc_check_key, od_check_key, .func (PySem.W.fnOf "check_key" "check_key" (defArgs st_check_key) (defBody st_check_key) (defScope st_check_key) .none kV_check_key dc_check_key pm_check_key an_check_key cd_check_key ct_check_key), sl_check_key⟩)
    (c_check_key : PySem.W.codeIn K cd_check_key "check_key" = true)
    (k_check_key : PySem.W.keepIn K (.ref a_check_key) = true)
    (g_height : PySem.W.nsIn K mainGlobals "height" = some (some (.ref a_height)))
    (l_height : K.lookup a_height = some ⟨oc_height, od_height, .func (PySem.W.fnOf "height" "height" (defArgs st_height) (defBody st_height) (defScope st_height) .none kV_height dc_height pm_height an_height cd_height ct_height), sl_height⟩)
    (c_height : PySem.W.codeIn K cd_height "height" = true)
    (k_height : PySem.W.keepIn K (.ref a_height) = true)
    (g_how_many : PySem.W.nsIn K mainGlobals "how_many" = some (some (.ref a_how_many)))
    (l_how_many : K.lookup a_how_many = some ⟨oc_how_many, od_how_many, .func (PySem.W.fnOf "how_many" "how_many" (defArgs st_how_many) (defBody st_how_many) (defScope st_how_many) .none kV_how_many dc_how_many pm_how_many an_how_many cd_how_many ct_how_many), sl_how_many⟩)
    (c_how_many : PySem.W.codeIn K cd_how_many "how_many" = true)
    (k_how_many : PySem.W.keepIn K (.ref a_how_many) = true)
    (g_node : PySem.W.nsIn K mainGlobals "node" = some (some (.ref a_node)))
    (l_node : K.lookup a_node = some ⟨oc_node, od_node, .func (PySem.W.fnOf "node" "node" (defArgs st_node) (defBody st_node) (defScope st_node) .none kV_node dc_node pm_node an_node cd_node ct_node), sl_node⟩)
    (c_node : PySem.W.codeIn K cd_node "node" = true)
    (k_node : PySem.W.keepIn K (.ref a_node) = true)
    (g_leaned : PySem.W.nsIn K mainGlobals "leaned" = some (some (.ref a_leaned)))
    (l_leaned : K.lookup a_leaned = some ⟨oc_leaned, od_leaned, .func (PySem.W.fnOf "leaned" "leaned" (defArgs st_leaned) (defBody st_leaned) (defScope st_leaned) .none kV_leaned dc_leaned pm_leaned an_leaned cd_leaned ct_leaned), sl_leaned⟩)
    (c_leaned : PySem.W.codeIn K cd_leaned "leaned" = true)
    (k_leaned : PySem.W.keepIn K (.ref a_leaned) = true)
    (g_put : PySem.W.nsIn K mainGlobals "put" = some (some (.ref a_put)))
    (l_put : K.lookup a_put = some ⟨oc_put, od_put, .func (PySem.W.fnOf "put" "put" (defArgs st_put) (defBody st_put) (defScope st_put) .none kV_put dc_put pm_put an_put cd_put ct_put), sl_put⟩)
    (c_put : PySem.W.codeIn K cd_put "put" = true)
    (k_put : PySem.W.keepIn K (.ref a_put) = true)
    (g_least : PySem.W.nsIn K mainGlobals "least" = some (some (.ref a_least)))
    (l_least : K.lookup a_least = some ⟨oc_least, od_least, .func (PySem.W.fnOf "least" "least" (defArgs st_least) (defBody st_least) (defScope st_least) .none kV_least dc_least pm_least an_least cd_least ct_least), sl_least⟩)
    (c_least : PySem.W.codeIn K cd_least "least" = true)
    (k_least : PySem.W.keepIn K (.ref a_least) = true)
    (g_without_least : PySem.W.nsIn K mainGlobals "without_least" = some (some (.ref a_without_least)))
    (l_without_least : K.lookup a_without_least = some ⟨oc_without_least, od_without_least, .func (PySem.W.fnOf "without_least" "without_least" (defArgs st_without_least) (defBody st_without_least) (defScope st_without_least) .none kV_without_least dc_without_least pm_without_least an_without_least cd_without_least ct_without_least), sl_without_least⟩)
    (c_without_least : PySem.W.codeIn K cd_without_least "without_least" = true)
    (k_without_least : PySem.W.keepIn K (.ref a_without_least) = true)
    (g_joined : PySem.W.nsIn K mainGlobals "joined" = some (some (.ref a_joined)))
    (l_joined : K.lookup a_joined = some ⟨oc_joined, od_joined, .func (PySem.W.fnOf "joined" "joined" (defArgs st_joined) (defBody st_joined) (defScope st_joined) .none kV_joined dc_joined pm_joined an_joined cd_joined ct_joined), sl_joined⟩)
    (c_joined : PySem.W.codeIn K cd_joined "joined" = true)
    (k_joined : PySem.W.keepIn K (.ref a_joined) = true)
    (g_behind : PySem.W.nsIn K mainGlobals "behind" = some (some (.ref a_behind)))
    (l_behind : K.lookup a_behind = some ⟨oc_behind, od_behind, .func (PySem.W.fnOf "behind" "behind" (defArgs st_behind) (defBody st_behind) (defScope st_behind) .none kV_behind dc_behind pm_behind an_behind cd_behind ct_behind), sl_behind⟩)
    (c_behind : PySem.W.codeIn K cd_behind "behind" = true)
    (k_behind : PySem.W.keepIn K (.ref a_behind) = true)
    (g_split : PySem.W.nsIn K mainGlobals "split" = some (some (.ref a_split)))
    (l_split : K.lookup a_split = some ⟨oc_split, od_split, .func (PySem.W.fnOf "split" "split" (defArgs st_split) (defBody st_split) (defScope st_split) .none kV_split dc_split pm_split an_split cd_split ct_split), sl_split⟩)
    (c_split : PySem.W.codeIn K cd_split "split" = true)
    (k_split : PySem.W.keepIn K (.ref a_split) = true)
    (g_put_together : PySem.W.nsIn K mainGlobals "put_together" = some (some (.ref a_put_together)))
    (l_put_together : K.lookup a_put_together = some ⟨oc_put_together, od_put_together, .func (PySem.W.fnOf "put_together" "put_together" (defArgs st_put_together) (defBody st_put_together) (defScope st_put_together) .none kV_put_together dc_put_together pm_put_together an_put_together cd_put_together ct_put_together), sl_put_together⟩)
    (c_put_together : PySem.W.codeIn K cd_put_together "put_together" = true)
    (k_put_together : PySem.W.keepIn K (.ref a_put_together) = true)
    (g_shared : PySem.W.nsIn K mainGlobals "shared" = some (some (.ref a_shared)))
    (l_shared : K.lookup a_shared = some ⟨oc_shared, od_shared, .func (PySem.W.fnOf "shared" "shared" (defArgs st_shared) (defBody st_shared) (defScope st_shared) .none kV_shared dc_shared pm_shared an_shared cd_shared ct_shared), sl_shared⟩)
    (c_shared : PySem.W.codeIn K cd_shared "shared" = true)
    (k_shared : PySem.W.keepIn K (.ref a_shared) = true)
    (g_less : PySem.W.nsIn K mainGlobals "less" = some (some (.ref a_less)))
    (l_less : K.lookup a_less = some ⟨oc_less, od_less, .func (PySem.W.fnOf "less" "less" (defArgs st_less) (defBody st_less) (defScope st_less) .none kV_less dc_less pm_less an_less cd_less ct_less), sl_less⟩)
    (c_less : PySem.W.codeIn K cd_less "less" = true)
    (k_less : PySem.W.keepIn K (.ref a_less) = true)
    (g_pairs : PySem.W.nsIn K mainGlobals "pairs" = some (some (.ref a_pairs)))
    (l_pairs : K.lookup a_pairs = some ⟨oc_pairs, od_pairs, .func (PySem.W.fnOf "pairs" "pairs" (defArgs st_pairs) (defBody st_pairs) (defScope st_pairs) .none kV_pairs dc_pairs pm_pairs an_pairs cd_pairs ct_pairs), sl_pairs⟩)
    (c_pairs : PySem.W.codeIn K cd_pairs "pairs" = true)
    (k_pairs : PySem.W.keepIn K (.ref a_pairs) = true)
    (g_look : PySem.W.nsIn K mainGlobals "look" = some (some (.ref a_look)))
    (l_look : K.lookup a_look = some ⟨oc_look, od_look, .func (PySem.W.fnOf "look" "look" (defArgs st_look) (defBody st_look) (defScope st_look) .none kV_look dc_look pm_look an_look cd_look ct_look), sl_look⟩)
    (c_look : PySem.W.codeIn K cd_look "look" = true)
    (k_look : PySem.W.keepIn K (.ref a_look) = true)
    (g__law_dice : PySem.W.nsIn K mainGlobals "_law_dice" = some (some (.ref a__law_dice)))
    (l__law_dice : K.lookup a__law_dice = some ⟨oc__law_dice, od__law_dice, .func (PySem.W.fnOf "_law_dice" "_law_dice" (defArgs st__law_dice) (defBody st__law_dice) (defScope st__law_dice) .none kV__law_dice dc__law_dice pm__law_dice an__law_dice cd__law_dice ct__law_dice), sl__law_dice⟩)
    (c__law_dice : PySem.W.codeIn K cd__law_dice "_law_dice" = true)
    (k__law_dice : PySem.W.keepIn K (.ref a__law_dice) = true)
    (g__law_roll : PySem.W.nsIn K mainGlobals "_law_roll" = some (some (.ref a__law_roll)))
    (l__law_roll : K.lookup a__law_roll = some ⟨oc__law_roll, od__law_roll, .func (PySem.W.fnOf "_law_roll" "_law_roll" (defArgs st__law_roll) (defBody st__law_roll) (defScope st__law_roll) .none kV__law_roll dc__law_roll pm__law_roll an__law_roll cd__law_roll ct__law_roll), sl__law_roll⟩)
    (c__law_roll : PySem.W.codeIn K cd__law_roll "_law_roll" = true)
    (k__law_roll : PySem.W.keepIn K (.ref a__law_roll) = true)
    (g__law_rounds : PySem.W.nsIn K mainGlobals "_law_rounds" = some (some (.ref a__law_rounds)))
    (l__law_rounds : K.lookup a__law_rounds = some ⟨oc__law_rounds, od__law_rounds, .func (PySem.W.fnOf "_law_rounds" "_law_rounds" (defArgs st__law_rounds) (defBody st__law_rounds) (defScope st__law_rounds) .none kV__law_rounds dc__law_rounds pm__law_rounds an__law_rounds cd__law_rounds ct__law_rounds), sl__law_rounds⟩)
    (c__law_rounds : PySem.W.codeIn K cd__law_rounds "_law_rounds" = true)
    (k__law_rounds : PySem.W.keepIn K (.ref a__law_rounds) = true)
    (g__law_row : PySem.W.nsIn K mainGlobals "_law_row" = some (some (.ref a__law_row)))
    (l__law_row : K.lookup a__law_row = some ⟨oc__law_row, od__law_row, .func (PySem.W.fnOf "_law_row" "_law_row" (defArgs st__law_row) (defBody st__law_row) (defScope st__law_row) .none kV__law_row dc__law_row pm__law_row an__law_row cd__law_row ct__law_row), sl__law_row⟩)
    (c__law_row : PySem.W.codeIn K cd__law_row "_law_row" = true)
    (k__law_row : PySem.W.keepIn K (.ref a__law_row) = true)
    (g__law_tree : PySem.W.nsIn K mainGlobals "_law_tree" = some (some (.ref a__law_tree)))
    (l__law_tree : K.lookup a__law_tree = some ⟨oc__law_tree, od__law_tree, .func (PySem.W.fnOf "_law_tree" "_law_tree" (defArgs st__law_tree) (defBody st__law_tree) (defScope st__law_tree) .none kV__law_tree dc__law_tree pm__law_tree an__law_tree cd__law_tree ct__law_tree), sl__law_tree⟩)
    (c__law_tree : PySem.W.codeIn K cd__law_tree "_law_tree" = true)
    (k__law_tree : PySem.W.keepIn K (.ref a__law_tree) = true)
    (g__law_keys : PySem.W.nsIn K mainGlobals "_law_keys" = some (some (.ref a__law_keys)))
    (l__law_keys : K.lookup a__law_keys = some ⟨oc__law_keys, od__law_keys, .func (PySem.W.fnOf "_law_keys" "_law_keys" (defArgs st__law_keys) (defBody st__law_keys) (defScope st__law_keys) .none kV__law_keys dc__law_keys pm__law_keys an__law_keys cd__law_keys ct__law_keys), sl__law_keys⟩)
    (c__law_keys : PySem.W.codeIn K cd__law_keys "_law_keys" = true)
    (k__law_keys : PySem.W.keepIn K (.ref a__law_keys) = true)
    (g_law : PySem.W.nsIn K mainGlobals "law" = some (some (.ref a_law)))
    (l_law : K.lookup a_law = some ⟨oc_law, od_law, .func (PySem.W.fnOf "law" "law" (defArgs st_law) (defBody st_law) (defScope st_law) .none kV_law dc_law pm_law an_law cd_law ct_law), sl_law⟩)
    (c_law : PySem.W.codeIn K cd_law "law" = true)
    (k_law : PySem.W.keepIn K (.ref a_law) = true)
    (eg_BadKey : PySem.W.nsIn K mainGlobals "BadKey" = some (some (.ref C_BadKey)))
    (eq_BadKey : PySem.W.excIn K C_BadKey [.type "ValueError", .type "Exception", .type "BaseException", .type "object"] "ValueError.__new__" = true)
    (ek_BadKey : PySem.W.keepIn K (.ref C_BadKey) = true)
    (eb_BadKey : PySem.W.subIn K (.ref C_BadKey) (.type "BaseException") = some true)
    (et_BadKey : PySem.W.typeIn K (.ref C_BadKey) = some (.type "type"))
    (b_abs : PySem.W.nsIn K mainGlobals "abs" = some none)
    (b_bool : PySem.W.nsIn K mainGlobals "bool" = some none)
    (b_int : PySem.W.nsIn K mainGlobals "int" = some none)
    (b_isinstance : PySem.W.nsIn K mainGlobals "isinstance" = some none)
    (b_len : PySem.W.nsIn K mainGlobals "len" = some none)
    (b_max : PySem.W.nsIn K mainGlobals "max" = some none)
    (b_range : PySem.W.nsIn K mainGlobals "range" = some none)
    (b_sorted : PySem.W.nsIn K mainGlobals "sorted" = some none)
    (b_tuple : PySem.W.nsIn K mainGlobals "tuple" = some none)
    (v_FAR : PySem.W.nsIn K mainGlobals "FAR" = some (some (.int 1000000000 t_FAR))) :
    ∃ fd : FuncData, (∀ (s : Shared) (v : Value), BindsTo s fd ⟨[v], []⟩ [("script", v)]) ∧ ∀ base : Heap, K.In base → base.Ns mainGlobals mg → FnOk P w K mg base (L2.CX P w) 124 fa fd ["script"] (VF.spL K) := by
  have ee := hfa.symm.trans (PySem.W.mg_of X G g_law)
  cases ee
  have E_BadKey : Exc K mg "BadKey" C_BadKey := ⟨PySem.W.mg_of X G eg_BadKey, eq_BadKey, ek_BadKey, eb_BadKey, et_BadKey⟩
  have B_abs := PySem.W.mg_none_of X G b_abs
  have B_bool := PySem.W.mg_none_of X G b_bool
  have B_int := PySem.W.mg_none_of X G b_int
  have B_isinstance := PySem.W.mg_none_of X G b_isinstance
  have B_len := PySem.W.mg_none_of X G b_len
  have B_max := PySem.W.mg_none_of X G b_max
  have B_range := PySem.W.mg_none_of X G b_range
  have B_sorted := PySem.W.mg_none_of X G b_sorted
  have B_tuple := PySem.W.mg_none_of X G b_tuple
  have V_FAR := PySem.W.mg_of X G v_FAR
  have R_is_key := fun_mk (st := st_is_key) l_is_key c_is_key k_is_key
  have R_check_key := fun_mk (st := st_check_key) l_check_key c_check_key k_check_key
  have R_height := fun_mk (st := st_height) l_height c_height k_height
  have R_how_many := fun_mk (st := st_how_many) l_how_many c_how_many k_how_many
  have R_node := fun_mk (st := st_node) l_node c_node k_node
  have R_leaned := fun_mk (st := st_leaned) l_leaned c_leaned k_leaned
  have R_put := fun_mk (st := st_put) l_put c_put k_put
  have R_least := fun_mk (st := st_least) l_least c_least k_least
  have R_without_least := fun_mk (st := st_without_least) l_without_least c_without_least k_without_least
  have R_joined := fun_mk (st := st_joined) l_joined c_joined k_joined
  have R_behind := fun_mk (st := st_behind) l_behind c_behind k_behind
  have R_split := fun_mk (st := st_split) l_split c_split k_split
  have R_put_together := fun_mk (st := st_put_together) l_put_together c_put_together k_put_together
  have R_shared := fun_mk (st := st_shared) l_shared c_shared k_shared
  have R_less := fun_mk (st := st_less) l_less c_less k_less
  have R_pairs := fun_mk (st := st_pairs) l_pairs c_pairs k_pairs
  have R_look := fun_mk (st := st_look) l_look c_look k_look
  have R__law_dice := fun_mk (st := st__law_dice) l__law_dice c__law_dice k__law_dice
  have R__law_roll := fun_mk (st := st__law_roll) l__law_roll c__law_roll k__law_roll
  have R__law_rounds := fun_mk (st := st__law_rounds) l__law_rounds c__law_rounds k__law_rounds
  have R__law_row := fun_mk (st := st__law_row) l__law_row c__law_row k__law_row
  have R__law_tree := fun_mk (st := st__law_tree) l__law_tree c__law_tree k__law_tree
  have R__law_keys := fun_mk (st := st__law_keys) l__law_keys c__law_keys k__law_keys
  have R_law := fun_mk (st := st_law) l_law c_law k_law
  refine ⟨PySem.W.fnOf "law" "law" (defArgs st_law) (defBody st_law) (defScope st_law) .none kV_law dc_law pm_law an_law cd_law ct_law, fun s v => .of_eq rfl, fun base _ _ => ?_⟩
  have K_is_key : Cal P w K mg base "is_key" ["thing"] 1 F_is_key := ⟨_, _, PySem.W.mg_of X G g_is_key, k_is_key, R_is_key.binds (ps := ["thing"]) (fun _ _ _ _ _ _ us hl => match us, hl with | [_], _ => rfl), ok_is_key R_is_key ⟨B_bool, B_int, B_isinstance, ⟨_, V_FAR⟩⟩  ⟩
  have K_check_key : Cal P w K mg base "check_key" ["thing"] 2 (F_check_key C_BadKey) := ⟨_, _, PySem.W.mg_of X G g_check_key, k_check_key, R_check_key.binds (ps := ["thing"]) (fun _ _ _ _ _ _ us hl => match us, hl with | [_], _ => rfl), ok_check_key R_check_key ⟨E_BadKey⟩ K_is_key ⟩
  have K_height : Cal P w K mg base "height" ["tree"] 1 F_height := ⟨_, _, PySem.W.mg_of X G g_height, k_height, R_height.binds (ps := ["tree"]) (fun _ _ _ _ _ _ us hl => match us, hl with | [_], _ => rfl), ok_height R_height ⟨trivial⟩  ⟩
  have K_how_many : Cal P w K mg base "how_many" ["tree"] 1 F_how_many := ⟨_, _, PySem.W.mg_of X G g_how_many, k_how_many, R_how_many.binds (ps := ["tree"]) (fun _ _ _ _ _ _ us hl => match us, hl with | [_], _ => rfl), ok_how_many R_how_many ⟨trivial⟩  ⟩
  have K_node : Cal P w K mg base "node" ["left", "key", "what", "right"] 2 F_node := ⟨_, _, PySem.W.mg_of X G g_node, k_node, R_node.binds (ps := ["left", "key", "what", "right"]) (fun _ _ _ _ _ _ us hl => match us, hl with | [_, _, _, _], _ => rfl), ok_node R_node ⟨B_max⟩ K_how_many K_height ⟩
  have K_leaned : Cal P w K mg base "leaned" ["left", "key", "what", "right"] 3 F_leaned := ⟨_, _, PySem.W.mg_of X G g_leaned, k_leaned, R_leaned.binds (ps := ["left", "key", "what", "right"]) (fun _ _ _ _ _ _ us hl => match us, hl with | [_, _, _, _], _ => rfl), ok_leaned R_leaned ⟨trivial⟩ K_height K_node ⟩
  have K_put : Cal P w K mg base "put" ["tree", "key", "what"] 43 (F_put C_BadKey 40) := ⟨_, _, PySem.W.mg_of X G g_put, k_put, R_put.binds (ps := ["tree", "key", "what"]) (fun _ _ _ _ _ _ us hl => match us, hl with | [_, _, _], _ => rfl), (ok_put R_put ⟨trivial⟩ K_check_key K_node K_leaned  (PySem.W.mg_of X G g_put) k_put (R_put.binds (ps := ["tree", "key", "what"]) (fun _ _ _ _ _ _ us hl => match us, hl with | [_, _, _], _ => rfl)) 40)⟩
  have K_least : Cal P w K mg base "least" ["tree"] 1 F_least := ⟨_, _, PySem.W.mg_of X G g_least, k_least, R_least.binds (ps := ["tree"]) (fun _ _ _ _ _ _ us hl => match us, hl with | [_], _ => rfl), ok_least R_least ⟨trivial⟩  ⟩
  have K_without_least : Cal P w K mg base "without_least" ["tree"] 43 (F_without_least 40) := ⟨_, _, PySem.W.mg_of X G g_without_least, k_without_least, R_without_least.binds (ps := ["tree"]) (fun _ _ _ _ _ _ us hl => match us, hl with | [_], _ => rfl), (ok_without_least R_without_least ⟨trivial⟩ K_leaned  (PySem.W.mg_of X G g_without_least) k_without_least (R_without_least.binds (ps := ["tree"]) (fun _ _ _ _ _ _ us hl => match us, hl with | [_], _ => rfl)) 40)⟩
  have K_joined : Cal P w K mg base "joined" ["left", "key", "what", "right"] 43 (F_joined 40) := ⟨_, _, PySem.W.mg_of X G g_joined, k_joined, R_joined.binds (ps := ["left", "key", "what", "right"]) (fun _ _ _ _ _ _ us hl => match us, hl with | [_, _, _, _], _ => rfl), (ok_joined R_joined ⟨trivial⟩ K_height K_leaned K_node  (PySem.W.mg_of X G g_joined) k_joined (R_joined.binds (ps := ["left", "key", "what", "right"]) (fun _ _ _ _ _ _ us hl => match us, hl with | [_, _, _, _], _ => rfl)) 40)⟩
  have K_behind : Cal P w K mg base "behind" ["left", "right"] 44 F_behind := ⟨_, _, PySem.W.mg_of X G g_behind, k_behind, R_behind.binds (ps := ["left", "right"]) (fun _ _ _ _ _ _ us hl => match us, hl with | [_, _], _ => rfl), ok_behind R_behind ⟨trivial⟩ K_least K_joined K_without_least ⟩
  have K_split : Cal P w K mg base "split" ["tree", "key"] 83 (F_split 40) := ⟨_, _, PySem.W.mg_of X G g_split, k_split, R_split.binds (ps := ["tree", "key"]) (fun _ _ _ _ _ _ us hl => match us, hl with | [_, _], _ => rfl), (ok_split R_split ⟨trivial⟩ K_joined  (PySem.W.mg_of X G g_split) k_split (R_split.binds (ps := ["tree", "key"]) (fun _ _ _ _ _ _ us hl => match us, hl with | [_, _], _ => rfl)) 40)⟩
  have K_put_together : Cal P w K mg base "put_together" ["one", "other"] 123 (F_put_together 40) := ⟨_, _, PySem.W.mg_of X G g_put_together, k_put_together, R_put_together.binds (ps := ["one", "other"]) (fun _ _ _ _ _ _ us hl => match us, hl with | [_, _], _ => rfl), (ok_put_together R_put_together ⟨trivial⟩ K_split K_joined  (PySem.W.mg_of X G g_put_together) k_put_together (R_put_together.binds (ps := ["one", "other"]) (fun _ _ _ _ _ _ us hl => match us, hl with | [_, _], _ => rfl)) 40)⟩
  have K_shared : Cal P w K mg base "shared" ["one", "other"] 123 (F_shared 40) := ⟨_, _, PySem.W.mg_of X G g_shared, k_shared, R_shared.binds (ps := ["one", "other"]) (fun _ _ _ _ _ _ us hl => match us, hl with | [_, _], _ => rfl), (ok_shared R_shared ⟨trivial⟩ K_split K_behind K_joined  (PySem.W.mg_of X G g_shared) k_shared (R_shared.binds (ps := ["one", "other"]) (fun _ _ _ _ _ _ us hl => match us, hl with | [_, _], _ => rfl)) 40)⟩
  have K_less : Cal P w K mg base "less" ["one", "other"] 123 (F_less 40) := ⟨_, _, PySem.W.mg_of X G g_less, k_less, R_less.binds (ps := ["one", "other"]) (fun _ _ _ _ _ _ us hl => match us, hl with | [_, _], _ => rfl), (ok_less R_less ⟨trivial⟩ K_split K_behind  (PySem.W.mg_of X G g_less) k_less (R_less.binds (ps := ["one", "other"]) (fun _ _ _ _ _ _ us hl => match us, hl with | [_, _], _ => rfl)) 40)⟩
  have K_pairs : Cal P w K mg base "pairs" ["tree"] 1 F_pairs := ⟨_, _, PySem.W.mg_of X G g_pairs, k_pairs, R_pairs.binds (ps := ["tree"]) (fun _ _ _ _ _ _ us hl => match us, hl with | [_], _ => rfl), ok_pairs R_pairs ⟨B_tuple⟩  ⟩
  have K_look : Cal P w K mg base "look" ["tree"] 3 F_look := ⟨_, _, PySem.W.mg_of X G g_look, k_look, R_look.binds (ps := ["tree"]) (fun _ _ _ _ _ _ us hl => match us, hl with | [_], _ => rfl), ok_look R_look ⟨B_abs, B_len, B_range⟩ K_node K_height K_pairs ⟩
  have K__law_dice : Cal P w K mg base "_law_dice" ["cell"] 1 F__law_dice := ⟨_, _, PySem.W.mg_of X G g__law_dice, k__law_dice, R__law_dice.binds (ps := ["cell"]) (fun _ _ _ _ _ _ us hl => match us, hl with | [_], _ => rfl), ok__law_dice R__law_dice ⟨B_abs, B_int⟩  ⟩
  have K__law_roll : Cal P w K mg base "_law_roll" ["dice", "many"] 1 F__law_roll := ⟨_, _, PySem.W.mg_of X G g__law_roll, k__law_roll, R__law_roll.binds (ps := ["dice", "many"]) (fun _ _ _ _ _ _ us hl => match us, hl with | [_, _], _ => rfl), ok__law_roll R__law_roll ⟨B_int⟩  ⟩
  have K__law_rounds : Cal P w K mg base "_law_rounds" ["script", "most"] 2 F__law_rounds := ⟨_, _, PySem.W.mg_of X G g__law_rounds, k__law_rounds, R__law_rounds.binds (ps := ["script", "most"]) (fun _ _ _ _ _ _ us hl => match us, hl with | [_, _], _ => rfl), ok__law_rounds R__law_rounds ⟨trivial⟩ K__law_dice ⟩
  have K__law_row : Cal P w K mg base "_law_row" ["dice", "most", "wide"] 2 F__law_row := ⟨_, _, PySem.W.mg_of X G g__law_row, k__law_row, R__law_row.binds (ps := ["dice", "most", "wide"]) (fun _ _ _ _ _ _ us hl => match us, hl with | [_, _, _], _ => rfl), ok__law_row R__law_row ⟨B_range⟩ K__law_roll ⟩
  have K__law_tree : Cal P w K mg base "_law_tree" ["row"] 44 (F__law_tree C_BadKey) := ⟨_, _, PySem.W.mg_of X G g__law_tree, k__law_tree, R__law_tree.binds (ps := ["row"]) (fun _ _ _ _ _ _ us hl => match us, hl with | [_], _ => rfl), ok__law_tree R__law_tree ⟨trivial⟩ K_put ⟩
  have K__law_keys : Cal P w K mg base "_law_keys" ["tree"] 4 F__law_keys := ⟨_, _, PySem.W.mg_of X G g__law_keys, k__law_keys, R__law_keys.binds (ps := ["tree"]) (fun _ _ _ _ _ _ us hl => match us, hl with | [_], _ => rfl), ok__law_keys R__law_keys ⟨trivial⟩ K_look K_pairs ⟩
  exact (ok_law R_law ⟨B_int, B_range, B_sorted⟩ K__law_rounds K__law_tree K__law_row K_shared K_put_together K__law_keys K_less K__law_roll K_split K_joined ).imp (VF.spL_of fun ns hl => by
    obtain ⟨os, hos⟩ := law_true (K := K) (C_BadKey := C_BadKey) (⟨trivial⟩ : Xf K C_BadKey) ns hl
    exact VF.law_of (n_law C_BadKey) hos)
theorem law_walk {l : PySem.W.OpenLaw} {q : Program} {loose : List Str} {XP : (Str → Option Value) → Heap → Prop} {YP : World → Heap → Prop} {d : DefRec} {K : Params → PySem.W.Frag} (hT : ∀ H : Hp, LamX.Tabs Tab.T H) (hn : l.most = some 63) (hdf : d.params.defaults = [])
    (hY : ∀ (w : World) (h : Heap), YP w h → (K w.params).In h)
    (F : ∀ (w : World) (mg : Str → Option Value) (fa : Addr) (h : Heap), (K w.params).In h → h.Ns mainGlobals mg → mg d.name = some (.ref fa) →
      ∃ fd : FuncData, (∀ (s : Shared) (u : Value), BindsTo s fd ⟨[u], []⟩ [("script", u)]) ∧ ∀ base : Heap, (K w.params).In base → base.Ns mainGlobals mg → FnOk l.prog w (K w.params) mg base (L2.CX l.prog w) 124 fa fd ["script"] (VF.spL (K w.params))) :
    PySem.W.WalkO q loose XP YP l.row.toRowW d [] (fun f vs => PySem.call f vs) :=
  L2.walk_of (n := 63) (k := 124) (x := "script") (CX := fun w => L2.CX l.prog w) (sp := fun w => VF.spL (K w.params)) hn (by decide) hdf ⟨rfl, by decide, by decide⟩ hY F (fun w H a ns hl hO hS => ⟨a, ns, rfl, hS, hl, hT H, fun _ => rfl⟩)
    (fun w H s e s' z => by obtain ⟨_, _, _, _, _, _, _, _, _, _, _, _, z⟩ := z; exact z)
end Law
open PySem PySem.W PyProof.Rows
set_option maxRecDepth 100000 in
set_option maxHeartbeats 0 in
theorem PySem.Challenge.cw_heapyard_k04_trees_as_sets_holds : PySem.Challenge.rw_heapyard_k04_trees_as_sets.Holds := by
  w_on; o_law; k_head; (case hw => w_witness2)
  k_fill
  letI iT : PF.Tab := ⟨[]⟩
  refine Law.law_walk (l := PySem.Challenge.rw_heapyard_k04_trees_as_sets) (fun H p hp => nomatch hp) rfl rfl (fun w h Y => PySem.W.kIn_of Y) ?F
  case F =>
    intro w mg fa h KX G hmg
    refine' Law.all_mk KX G hmg ?g_is_key ?l_is_key ?c_is_key ?k_is_key ?g_check_key ?l_check_key ?c_check_key ?k_check_key ?g_height ?l_height ?c_height ?k_height ?g_how_many ?l_how_many ?c_how_many ?k_how_many ?g_node ?l_node ?c_node ?k_node ?g_leaned ?l_leaned ?c_leaned ?k_leaned ?g_put ?l_put ?c_put ?k_put ?g_least ?l_least ?c_least ?k_least ?g_without_least ?l_without_least ?c_without_least ?k_without_least ?g_joined ?l_joined ?c_joined ?k_joined ?g_behind ?l_behind ?c_behind ?k_behind ?g_split ?l_split ?c_split ?k_split ?g_put_together ?l_put_together ?c_put_together ?k_put_together ?g_shared ?l_shared ?c_shared ?k_shared ?g_less ?l_less ?c_less ?k_less ?g_pairs ?l_pairs ?c_pairs ?k_pairs ?g_look ?l_look ?c_look ?k_look ?g__law_dice ?l__law_dice ?c__law_dice ?k__law_dice ?g__law_roll ?l__law_roll ?c__law_roll ?k__law_roll ?g__law_rounds ?l__law_rounds ?c__law_rounds ?k__law_rounds ?g__law_row ?l__law_row ?c__law_row ?k__law_row ?g__law_tree ?l__law_tree ?c__law_tree ?k__law_tree ?g__law_keys ?l__law_keys ?c__law_keys ?k__law_keys ?g_law ?l_law ?c_law ?k_law ?eg_BadKey ?eq_BadKey ?ek_BadKey ?eb_BadKey ?et_BadKey ?b_abs ?b_bool ?b_int ?b_isinstance ?b_len ?b_max ?b_range ?b_sorted ?b_tuple ?v_FAR
    (case g_is_key => k_is)
    (case l_is_key => k_is)
    (case c_is_key => k_is)
    (case k_is_key => k_is)
    (case g_check_key => k_is)
    (case l_check_key => k_is)
    (case c_check_key => k_is)
    (case k_check_key => k_is)
    (case g_height => k_is)
    (case l_height => k_is)
    (case c_height => k_is)
    (case k_height => k_is)
    (case g_how_many => k_is)
    (case l_how_many => k_is)
    (case c_how_many => k_is)
    (case k_how_many => k_is)
    (case g_node => k_is)
    (case l_node => k_is)
    (case c_node => k_is)
    (case k_node => k_is)
    (case g_leaned => k_is)
    (case l_leaned => k_is)
    (case c_leaned => k_is)
    (case k_leaned => k_is)
    (case g_put => k_is)
    (case l_put => k_is)
    (case c_put => k_is)
    (case k_put => k_is)
    (case g_least => k_is)
    (case l_least => k_is)
    (case c_least => k_is)
    (case k_least => k_is)
    (case g_without_least => k_is)
    (case l_without_least => k_is)
    (case c_without_least => k_is)
    (case k_without_least => k_is)
    (case g_joined => k_is)
    (case l_joined => k_is)
    (case c_joined => k_is)
    (case k_joined => k_is)
    (case g_behind => k_is)
    (case l_behind => k_is)
    (case c_behind => k_is)
    (case k_behind => k_is)
    (case g_split => k_is)
    (case l_split => k_is)
    (case c_split => k_is)
    (case k_split => k_is)
    (case g_put_together => k_is)
    (case l_put_together => k_is)
    (case c_put_together => k_is)
    (case k_put_together => k_is)
    (case g_shared => k_is)
    (case l_shared => k_is)
    (case c_shared => k_is)
    (case k_shared => k_is)
    (case g_less => k_is)
    (case l_less => k_is)
    (case c_less => k_is)
    (case k_less => k_is)
    (case g_pairs => k_is)
    (case l_pairs => k_is)
    (case c_pairs => k_is)
    (case k_pairs => k_is)
    (case g_look => k_is)
    (case l_look => k_is)
    (case c_look => k_is)
    (case k_look => k_is)
    (case g__law_dice => k_is)
    (case l__law_dice => k_is)
    (case c__law_dice => k_is)
    (case k__law_dice => k_is)
    (case g__law_roll => k_is)
    (case l__law_roll => k_is)
    (case c__law_roll => k_is)
    (case k__law_roll => k_is)
    (case g__law_rounds => k_is)
    (case l__law_rounds => k_is)
    (case c__law_rounds => k_is)
    (case k__law_rounds => k_is)
    (case g__law_row => k_is)
    (case l__law_row => k_is)
    (case c__law_row => k_is)
    (case k__law_row => k_is)
    (case g__law_tree => k_is)
    (case l__law_tree => k_is)
    (case c__law_tree => k_is)
    (case k__law_tree => k_is)
    (case g__law_keys => k_is)
    (case l__law_keys => k_is)
    (case c__law_keys => k_is)
    (case k__law_keys => k_is)
    (case g_law => k_is)
    (case l_law => k_is)
    (case c_law => k_is)
    (case k_law => k_is)
    (case eg_BadKey => k_is)
    (case eq_BadKey => k_exc)
    (case ek_BadKey => k_is)
    (case eb_BadKey => k_is)
    (case et_BadKey => k_is)
    (case b_abs => k_is)
    (case b_bool => k_is)
    (case b_int => k_is)
    (case b_isinstance => k_is)
    (case b_len => k_is)
    (case b_max => k_is)
    (case b_range => k_is)
    (case b_sorted => k_is)
    (case b_tuple => k_is)
    (case v_FAR => k_is)

