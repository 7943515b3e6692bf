import PyProof.Rows.All
import Wide.All
import OpenK.AllK
import Wide.FinOn
import HandS.ForMost
import HandS.ForExc
import HandS.Lambda
import HandS.EndTab
import KE.KNestM
import HandS.IsInst
import HandS.TupAny
import HandS.TupLe
import HandS.SortInts
import HandS.Conv
import HandS.Text
import HandS.TryMany
import HandS.Style
import HandS.CallSlots
import HandS.SortRule
import PySem.Challenge.RW_heapyard_k23_nets_of_exchanges
set_option Elab.async false
set_option linter.all false
set_option maxRecDepth 100000
set_option autoImplicit false
/-! A functional reading over the hand layer: each piece of text is told by a function of plain data and a store. -/
namespace PF
open PySem L2

/-- plain data: tuples and frozen lists by their items, everything that changes by its number in the store -/
inductive D where
  | non | bl (b : Bool) | int (i : Int) | str (x : Str) | tup (xs : List D) | lst (xs : List D) | ref (n : Nat) | scr (ns : List Int)
/-- an object of the store -/
inductive O where
  | lst (xs : List D) | dic (kvs : List (Key × D)) | ins (C : Addr) (fs : List (Str × D)) | dead
abbrev So := List O
abbrev En := List (Option D)
/-- where the store's objects stand, and which lists are frozen -/
structure Wd where
  m : List Addr
  fz : Addr → Prop
  rs : Addr → Prop

/-- tables of code objects (of defs that make lambdas): where they stand, what the code objects are called -/
class Tab where
  T : List (Addr × Str)
/-- what the store may hold -/
def Mu : Option HO → Prop
  | some (.lst _) => True
  | some (.dK _) => True
  | some (.ins _ _ _) => True
  | _ => False
/-- there, and no table, no code object -/
def Nt (x : Option HO) : Prop := ∃ o, x = some o ∧ (∀ ps, o ≠ .tbl ps) ∧ ∀ f, o ≠ .ext f
section rel
variable (K : PySem.W.Frag) (W : Wd) (H : Hp)
/-- a list of the written part -/
def KL (a : Addr) (xs : List V) : Prop := ∃ (o : Obj) (its : Array Value) (n : Nat), K.lookup a = some o ∧ o.cls = .type "list" ∧ o.dict = none ∧ o.data = .seq its n ∧ its.size ≤ sizeLine ∧ Vals xs its.toList
def FzL (a : Addr) (xs : List V) : Prop := W.fz a ∧ H a = some (.lst xs)
mutual
def DRel : D → V → Prop
  | .non, v => v = .non
  | .bl b, v => v = .bl b
  | .int i, v => v = .int i
  | .str x, v => v = .str x
  | .tup ds, v => ∃ a vs, v = .ref a ∧ SqT K H a vs ∧ DRels ds vs
  | .lst ds, v => ∃ a vs, v = .ref a ∧ FzL W H a vs ∧ DRels ds vs
  | .ref n, v => ∃ a, v = .ref a ∧ W.m[n]? = some a
  | .scr ns, v => ∃ a, v = .ref a ∧ ((∃ o, H a = some (.frz o (.lst (ns.map V.int)))) ∨ KL K a (ns.map V.int) ∨ FzL W H a (ns.map V.int))
def DRels : List D → List V → Prop
  | [], vs => vs = []
  | d :: ds, vs => ∃ v r, vs = v :: r ∧ DRel d v ∧ DRels ds r
end
def KRel : List (Key × D) → List (Key × V) → Prop
  | [], vs => vs = []
  | (k, d) :: ds, vs => ∃ v r, vs = (k, v) :: r ∧ DRel K W H d v ∧ KRel ds r
def FRel : List (Str × D) → List (Str × V) → Prop
  | [], vs => vs = []
  | (k, d) :: ds, vs => ∃ v r, vs = (k, v) :: r ∧ DRel K W H d v ∧ FRel ds r
def ORel (a : Addr) : O → Prop
  | .lst ds => ∃ vs, H a = some (.lst vs) ∧ DRels K W H ds vs
  | .dic kvs => ∃ vs, H a = some (.dK vs) ∧ KRel K W H kvs vs
  | .ins C fs => ∃ dx vs, H a = some (.ins C dx vs) ∧ FRel K W H fs vs
  | .dead => True
structure SRel [Tab] (S : So) : Prop where
  tab : LamX.Tabs Tab.T H
  len : W.m.length = S.length
  inj : W.m.Nodup
  dom : ∀ (n : Nat) (a : Addr), W.m[n]? = some a → Mu (H a)
  fzd : ∀ a, W.fz a → Nt (H a)
  dis : ∀ (n : Nat) (a : Addr), W.m[n]? = some a → ¬ W.fz a
  rsd : ∀ a, W.rs a → Nt (H a) ∧ a ∉ W.m ∧ ¬ W.fz a
  obj : ∀ (n : Nat) (a : Addr) (o : O), W.m[n]? = some a → S[n]? = some o → ORel K W H a o
def ERel (en : En) (σ : St) : Prop := en.length = σ.length ∧ ∀ (i : Nat) d, en[i]? = some (some d) → ∃ v, σ[i]? = some (some v) ∧ DRel K W H d v
end rel
/-- later -/
structure Ext0 (K : PySem.W.Frag) (W : Wd) (H : Hp) (W' : Wd) (H' : Hp) : Prop where
  m : ∀ (n : Nat) (a : Addr), W.m[n]? = some a → W'.m[n]? = some a
  fz : ∀ a, W.fz a → W'.fz a
  tup : ∀ a vs, SqT K H a vs → SqT K H' a vs
  lst : ∀ a vs, W.fz a → H a = some (.lst vs) → H' a = some (.lst vs)
  scr : ∀ a o vs, H a = some (.frz o (.lst vs)) → H' a = some (.frz o (.lst vs))
/-- .. and what is reserved stands as it was -/
structure Ext (K : PySem.W.Frag) (W : Wd) (H : Hp) (W' : Wd) (H' : Hp) : Prop extends Ext0 K W H W' H' where
  rs : ∀ a, W.rs a → W'.rs a ∧ H' a = H a

section ext
variable {K : PySem.W.Frag} {W W' W1 W2 : Wd} {H H' H1 H2 : Hp}
theorem Ext0.refl : Ext0 K W H W H := ⟨fun _ _ h => h, fun _ h => h, fun _ _ h => h, fun _ _ _ h => h, fun _ _ _ h => h⟩
theorem Ext0.trans (a : Ext0 K W H W1 H1) (b : Ext0 K W1 H1 W2 H2) : Ext0 K W H W2 H2 :=
  ⟨fun n x h => b.m n x (a.m n x h), fun x h => b.fz x (a.fz x h), fun x vs h => b.tup x vs (a.tup x vs h), fun x vs f h => b.lst x vs (a.fz x f) (a.lst x vs f h), fun x o vs h => b.scr x o vs (a.scr x o vs h)⟩
theorem Ext.refl : Ext K W H W H := ⟨Ext0.refl, fun _ h => ⟨h, rfl⟩⟩
theorem Ext.trans (a : Ext K W H W1 H1) (b : Ext K W1 H1 W2 H2) : Ext K W H W2 H2 :=
  ⟨a.toExt0.trans b.toExt0, fun x h => ⟨(b.rs x (a.rs x h).1).1, (b.rs x (a.rs x h).1).2.trans (a.rs x h).2⟩⟩
theorem FzL.ext0 {a : Addr} {vs : List V} (e : Ext0 K W H W' H') (h : FzL W H a vs) : FzL W' H' a vs := ⟨e.fz _ h.1, e.lst _ _ h.1 h.2⟩
theorem FzL.sq {a : Addr} {vs : List V} (h : FzL W H a vs) : SqL K H a vs := .of h.2
mutual
theorem DRel.ext0 (e : Ext0 K W H W' H') : ∀ {d : D} {v : V}, DRel K W H d v → DRel K W' H' d v
  | .non, v, h => h
  | .bl _, v, h => h
  | .int _, v, h => h
  | .str _, v, h => h
  | .tup ds, v, h => by
    unfold DRel at h ⊢
    obtain ⟨a, vs, h1, h2, h3⟩ := h
    exact ⟨a, vs, h1, e.tup _ _ h2, DRels.ext0 e h3⟩
  | .lst ds, v, h => by
    unfold DRel at h ⊢
    obtain ⟨a, vs, h1, h2, h3⟩ := h
    exact ⟨a, vs, h1, h2.ext0 e, DRels.ext0 e h3⟩
  | .ref n, v, h => by
    unfold DRel at h ⊢
    obtain ⟨a, h1, h2⟩ := h
    exact ⟨a, h1, e.m _ _ h2⟩
  | .scr ns, v, h => by
    unfold DRel at h ⊢
    obtain ⟨a, h1, h2⟩ := h
    refine ⟨a, h1, ?_⟩
    rcases h2 with ⟨o, h2⟩ | h2 | h2
    · exact .inl ⟨o, e.scr _ _ _ h2⟩
    · exact .inr (.inl h2)
    · exact .inr (.inr ⟨e.fz _ h2.1, e.lst _ _ h2.1 h2.2⟩)
theorem DRels.ext0 (e : Ext0 K W H W' H') : ∀ {ds : List D} {vs : List V}, DRels K W H ds vs → DRels K W' H' ds vs
  | [], vs, h => h
  | d :: ds, vs, h => by
    unfold DRels at h ⊢
    obtain ⟨v, r, h1, h2, h3⟩ := h
    exact ⟨v, r, h1, DRel.ext0 e h2, DRels.ext0 e h3⟩
end
theorem KRel.ext0 (e : Ext0 K W H W' H') : ∀ {ds : List (Key × D)} {vs : List (Key × V)}, KRel K W H ds vs → KRel K W' H' ds vs
  | [], vs, h => h
  | (k, d) :: ds, vs, h => by
    unfold KRel at h ⊢
    obtain ⟨v, r, h1, h2, h3⟩ := h
    exact ⟨v, r, h1, DRel.ext0 e h2, KRel.ext0 e h3⟩
theorem FRel.ext0 (e : Ext0 K W H W' H') : ∀ {ds : List (Str × D)} {vs : List (Str × V)}, FRel K W H ds vs → FRel K W' H' ds vs
  | [], vs, h => h
  | (k, d) :: ds, vs, h => by
    unfold FRel at h ⊢
    obtain ⟨v, r, h1, h2, h3⟩ := h
    exact ⟨v, r, h1, DRel.ext0 e h2, FRel.ext0 e h3⟩
theorem ERel.ext0 {en : En} {σ : St} (e : Ext0 K W H W' H') (h : ERel K W H en σ) : ERel K W' H' en σ :=
  ⟨h.1, fun i d hi => (h.2 i d hi).imp fun v hv => ⟨hv.1, hv.2.ext0 e⟩⟩
theorem FzL.ext {a : Addr} {vs : List V} (e : Ext K W H W' H') (h : FzL W H a vs) : FzL W' H' a vs := h.ext0 e.toExt0
theorem DRel.ext {d : D} {v : V} (e : Ext K W H W' H') (h : DRel K W H d v) : DRel K W' H' d v := h.ext0 e.toExt0
theorem DRels.ext {d : List D} {v : List V} (e : Ext K W H W' H') (h : DRels K W H d v) : DRels K W' H' d v := h.ext0 e.toExt0
theorem KRel.ext {d : List (Key × D)} {v : List (Key × V)} (e : Ext K W H W' H') (h : KRel K W H d v) : KRel K W' H' d v := h.ext0 e.toExt0
theorem FRel.ext {d : List (Str × D)} {v : List (Str × V)} (e : Ext K W H W' H') (h : FRel K W H d v) : FRel K W' H' d v := h.ext0 e.toExt0
theorem ERel.ext {en : En} {σ : St} (e : Ext K W H W' H') (h : ERel K W H en σ) : ERel K W' H' en σ := h.ext0 e.toExt0
theorem ERel.set {en : En} {σ : St} {i : Nat} {d : D} {v : V} (h : ERel K W H en σ) (r : DRel K W H d v) : ERel K W H (en.set i (some d)) (σ.set i (some v)) := by
  refine ⟨by rw [List.length_set, List.length_set]; exact h.1, fun j e hj => ?_⟩
  by_cases c : i = j
  · subst c
    by_cases hl : i < en.length
    · rw [List.getElem?_set_self hl] at hj
      cases hj
      exact ⟨v, List.getElem?_set_self (by rw [← h.1]; exact hl), r⟩
    · rw [List.getElem?_eq_none (by rw [List.length_set]; omega)] at hj
      cases hj
  · rw [List.getElem?_set_ne c] at hj ⊢
    exact h.2 j e hj
theorem ERel.clear {en : En} {σ : St} {i : Nat} (h : ERel K W H en σ) : ERel K W H (en.set i none) (σ.set i none) := by
  refine ⟨by rw [List.length_set, List.length_set]; exact h.1, fun j e hj => ?_⟩
  by_cases c : i = j
  · subst c
    by_cases hl : i < en.length
    · rw [List.getElem?_set_self hl] at hj; cases hj
    · rw [List.getElem?_eq_none (by rw [List.length_set]; omega)] at hj; cases hj
  · rw [List.getElem?_set_ne c] at hj ⊢
    exact h.2 j e hj
theorem ERel.wipe {en : En} {σ : St} (h : ERel K W H en σ) : ∀ vs : List Nat, ∃ en', ERel K W H en' (wipe σ vs)
  | [] => ⟨en, h⟩
  | v :: vs => by
    obtain ⟨en', h'⟩ := ERel.wipe h vs
    exact ⟨en'.set v none, h'.clear⟩
theorem DRels.length : ∀ {ds : List D} {vs : List V}, DRels K W H ds vs → ds.length = vs.length
  | [], vs, h => by unfold DRels at h; subst h; rfl
  | d :: ds, vs, h => by
    unfold DRels at h
    obtain ⟨v, r, rfl, _, h3⟩ := h
    simp [DRels.length h3]
theorem DRels.get : ∀ {ds : List D} {vs : List V}, DRels K W H ds vs → ∀ {i : Nat} {d : D}, ds[i]? = some d → ∃ v, vs[i]? = some v ∧ DRel K W H d v
  | [], vs, h, i, d, e => by simp at e
  | d :: ds, vs, h, 0, d', e => by
    unfold DRels at h
    obtain ⟨v, r, rfl, h2, h3⟩ := h
    simp at e; subst e
    exact ⟨v, rfl, h2⟩
  | d :: ds, vs, h, i + 1, d', e => by
    unfold DRels at h
    obtain ⟨v, r, rfl, h2, h3⟩ := h
    simpa using DRels.get h3 (i := i) (d := d') (by simpa using e)
theorem DRels.cons {d : D} {ds : List D} {v : V} {vs : List V} (h : DRel K W H d v) (hs : DRels K W H ds vs) : DRels K W H (d :: ds) (v :: vs) := by
  unfold DRels
  exact ⟨v, vs, rfl, h, hs⟩
theorem DRels.nil : DRels K W H [] [] := by unfold DRels; rfl
theorem DRels.append : ∀ {ds es : List D} {vs us : List V}, DRels K W H ds vs → DRels K W H es us → DRels K W H (ds ++ es) (vs ++ us)
  | [], es, vs, us, h, h' => by unfold DRels at h; subst h; exact h'
  | d :: ds, es, vs, us, h, h' => by
    unfold DRels at h
    obtain ⟨v, r, rfl, h2, h3⟩ := h
    exact DRels.cons h2 (DRels.append h3 h')
theorem DRels.take : ∀ {ds : List D} {vs : List V} (n : Nat), DRels K W H ds vs → DRels K W H (ds.take n) (vs.take n)
  | ds, vs, 0, h => by simp; exact DRels.nil
  | [], vs, n + 1, h => by unfold DRels at h; subst h; exact DRels.nil
  | d :: ds, vs, n + 1, h => by
    unfold DRels at h
    obtain ⟨v, r, rfl, h2, h3⟩ := h
    exact DRels.cons h2 (DRels.take n h3)
theorem DRels.drop : ∀ {ds : List D} {vs : List V} (n : Nat), DRels K W H ds vs → DRels K W H (ds.drop n) (vs.drop n)
  | ds, vs, 0, h => by simpa using h
  | [], vs, n + 1, h => by unfold DRels at h; subst h; exact DRels.nil
  | d :: ds, vs, n + 1, h => by
    unfold DRels at h
    obtain ⟨v, r, rfl, h2, h3⟩ := h
    simpa using DRels.drop n h3
theorem DRels.set {d : D} {v : V} (q : DRel K W H d v) : ∀ {ds : List D} {vs : List V} (n : Nat), DRels K W H ds vs → DRels K W H (ds.set n d) (vs.set n v)
  | [], vs, n, h => by unfold DRels at h; subst h; exact DRels.nil
  | e :: ds, vs, 0, h => by
    unfold DRels at h
    obtain ⟨v', r, rfl, h2, h3⟩ := h
    exact DRels.cons q h3
  | e :: ds, vs, n + 1, h => by
    unfold DRels at h
    obtain ⟨v', r, rfl, h2, h3⟩ := h
    exact DRels.cons h2 (DRels.set q n h3)
theorem DRels.reverse : ∀ {ds : List D} {vs : List V}, DRels K W H ds vs → DRels K W H ds.reverse vs.reverse
  | [], vs, h => by unfold DRels at h; subst h; exact DRels.nil
  | d :: ds, vs, h => by
    unfold DRels at h
    obtain ⟨v, r, rfl, h2, h3⟩ := h
    rw [List.reverse_cons, List.reverse_cons]
    exact DRels.append (DRels.reverse h3) (DRels.cons h2 DRels.nil)
theorem DRels.eraseIdx : ∀ {ds : List D} {vs : List V} (n : Nat), DRels K W H ds vs → DRels K W H (ds.eraseIdx n) (vs.eraseIdx n)
  | [], vs, n, h => by unfold DRels at h; subst h; exact DRels.nil
  | e :: ds, vs, 0, h => by
    unfold DRels at h
    obtain ⟨v', r, rfl, h2, h3⟩ := h
    exact h3
  | e :: ds, vs, n + 1, h => by
    unfold DRels at h
    obtain ⟨v', r, rfl, h2, h3⟩ := h
    exact DRels.cons h2 (DRels.eraseIdx n h3)
theorem DRels.dropLast {ds : List D} {vs : List V} (h : DRels K W H ds vs) : DRels K W H ds.dropLast vs.dropLast := by
  rw [List.dropLast_eq_take, List.dropLast_eq_take, h.length]
  exact h.take _
theorem DRels.rep {ds : List D} {vs : List V} (h : DRels K W H ds vs) : ∀ k : Nat, DRels K W H (List.replicate k ds).flatten (List.replicate k vs).flatten
  | 0 => DRels.nil
  | k + 1 => by
    rw [List.replicate_succ, List.replicate_succ, List.flatten_cons, List.flatten_cons]
    exact DRels.append h (DRels.rep h k)
theorem DRels.ints : ∀ (ns : List Int), DRels K W H (ns.map D.int) (ns.map V.int)
  | [] => DRels.nil
  | n :: ns => DRels.cons (by unfold DRel; rfl) (DRels.ints ns)
theorem DRels.ints_of : ∀ {ns : List Int} {vs : List V}, DRels K W H (ns.map D.int) vs → vs = ns.map V.int
  | [], vs, h => by simp only [List.map_nil] at h; unfold DRels at h; exact h
  | n :: ns, vs, h => by
    simp only [List.map_cons] at h
    unfold DRels at h
    obtain ⟨v, r, rfl, h2, h3⟩ := h
    unfold DRel at h2
    rw [h2, DRels.ints_of h3, List.map_cons]
end ext
end PF

namespace PF
open PySem L2
/-! ### the store changes -/
section store
variable [Tab] {K : PySem.W.Frag} {W W' : Wd} {H : Hp} {S : So} {p a : Addr} {o : HO} {n : Nat} {ob : O}
theorem mu_nt {x : Option HO} (h : Mu x) : Nt x := by
  cases x with
  | none => exact h.elim
  | some o => exact ⟨o, rfl, fun ps q => by subst q; exact h, fun f q => by subst q; exact h⟩
theorem Mu.mut {x : Option HO} (h : Mu x) : Mut x := by
  cases x with
  | none => exact h.elim
  | some o => cases o <;> first | exact trivial | exact h.elim
theorem tabs_more {T : List (Addr × Str)} (t : LamX.Tabs T H) (hp : H p = none) : LamX.Tabs T (upd H p o) := t.ext fun b u h => by rw [upd_ne (ne_of_none h hp)]; exact h
theorem tabs_upd {T : List (Addr × Str)} (t : LamX.Tabs T H) (ha : Nt (H a)) : LamX.Tabs T (upd H a o) := fun q hq => by
  obtain ⟨ps, h1, h2, h3⟩ := t q hq
  obtain ⟨u, u1, u2, u3⟩ := ha
  have ne : ∀ {b : Addr} {v : HO}, H b = some v → v ≠ u → b ≠ a := fun {b v} e n z => by subst z; rw [u1] at e; exact n (Option.some.inj e).symm
  refine ⟨ps, by rw [upd_ne (ne h1 fun z => u2 ps z.symm)]; exact h1, h2, fun pos cv hc => ?_⟩
  obtain ⟨c, e1, e2⟩ := h3 pos cv hc
  exact ⟨c, e1, by rw [upd_ne (ne e2 fun z => u3 _ z.symm)]; exact e2⟩
theorem sqT_upd {b : Addr} {vs : List V} (hp : H p = none) (h : SqT K H b vs) : SqT K (upd H p o) b vs := by
  rcases h with (h | ⟨u, h⟩) | h
  · exact .inl (.inl (by rw [upd_ne (ne_of_none h hp)]; exact h))
  · exact .inl (.inr ⟨u, by rw [upd_ne (ne_of_none h hp)]; exact h⟩)
  · exact .inr h
theorem rd_upd {b : Addr} {u : HO} (hp : H p = none) (h : Rd H b u) : Rd (upd H p o) b u := by
  rcases h with h | ⟨x, h⟩
  · exact .inl (by rw [upd_ne (ne_of_none h hp)]; exact h)
  · exact .inr ⟨x, by rw [upd_ne (ne_of_none h hp)]; exact h⟩
theorem ext_fresh (hp : H p = none) (hm : ∀ (n : Nat) (a : Addr), W.m[n]? = some a → W'.m[n]? = some a) (hf : ∀ a, W.fz a → W'.fz a) : Ext0 K W H W' (upd H p o) :=
  ⟨hm, hf, fun _ _ h => sqT_upd hp h, fun _ _ _ h => by rw [upd_ne (ne_of_none h hp)]; exact h, fun _ _ _ h => by rw [upd_ne (ne_of_none h hp)]; exact h⟩
theorem ORel.ext {W' : Wd} {H' : Hp} (e : Ext0 K W H W' H') (hH : H' a = H a) : ∀ {ob : O}, ORel K W H a ob → ORel K W' H' a ob
  | .lst ds, ⟨vs, h1, h2⟩ => ⟨vs, by rw [hH]; exact h1, h2.ext0 e⟩
  | .dic ds, ⟨vs, h1, h2⟩ => ⟨vs, by rw [hH]; exact h1, h2.ext0 e⟩
  | .ins C fs, ⟨dx, vs, h1, h2⟩ => ⟨dx, vs, by rw [hH]; exact h1, h2.ext0 e⟩
  | .dead, _ => trivial
theorem SRel.ne (s : SRel K W H S) (hp : H p = none) (hn : W.m[n]? = some a) : a ≠ p := by
  obtain ⟨o, h, _⟩ := mu_nt (s.dom n a hn)
  exact ne_of_none h hp
theorem SRel.fzne (s : SRel K W H S) (hp : H p = none) (hn : W.fz a) : a ≠ p := by
  obtain ⟨o, h, _⟩ := s.fzd a hn
  exact ne_of_none h hp
theorem SRel.rsne (s : SRel K W H S) (hp : H p = none) (hn : W.rs a) : a ≠ p := by
  obtain ⟨⟨o, h, _⟩, _⟩ := s.rsd a hn
  exact ne_of_none h hp
/-- a new thing that the world does not name -/
theorem SRel.more (s : SRel K W H S) (hp : H p = none) : SRel K W (upd H p o) S where
  tab := tabs_more s.tab hp
  len := s.len
  inj := s.inj
  dom := fun n a h => by rw [upd_ne (s.ne hp h)]; exact s.dom n a h
  fzd := fun a h => by rw [upd_ne (s.fzne hp h)]; exact s.fzd a h
  dis := s.dis
  rsd := fun a h => by rw [upd_ne (s.rsne hp h)]; exact s.rsd a h
  obj := fun n a ob h h' => (s.obj n a ob h h').ext (ext_fresh hp (fun _ _ q => q) fun _ q => q) (upd_ne (s.ne hp h))
def Wd.frz (W : Wd) (p : Addr) : Wd := ⟨W.m, fun a => W.fz a ∨ a = p, W.rs⟩
def Wd.add (W : Wd) (p : Addr) : Wd := ⟨W.m ++ [p], W.fz, W.rs⟩
theorem rs_fresh (s : SRel K W H S) (hp : H p = none) : ∀ a, W.rs a → W.rs a ∧ upd H p o a = H a := fun a h => ⟨h, upd_ne (s.rsne hp h)⟩
theorem ext_frz (s : SRel K W H S) (hp : H p = none) : Ext K W H (W.frz p) (upd H p o) := ⟨ext_fresh hp (fun _ _ q => q) fun _ q => .inl q, rs_fresh s hp⟩
theorem ext_add (s : SRel K W H S) (hp : H p = none) : Ext K W H (W.add p) (upd H p o) := ⟨ext_fresh hp (fun n a q => by
  show (W.m ++ [p])[n]? = _
  rw [List.getElem?_append_left (List.getElem?_eq_some_iff.mp q).1]; exact q) fun _ q => q, rs_fresh s hp⟩
theorem ext_more (s : SRel K W H S) (hp : H p = none) : Ext K W H W (upd H p o) := ⟨ext_fresh hp (fun _ _ q => q) fun _ q => q, rs_fresh s hp⟩
/-- a new list, frozen -/
theorem SRel.frz {vs : List V} (s : SRel K W H S) (hp : H p = none) : SRel K (W.frz p) (upd H p (.lst vs)) S where
  tab := tabs_more s.tab hp
  len := s.len
  inj := s.inj
  dom := fun n a h => by rw [upd_ne (s.ne hp h)]; exact s.dom n a h
  fzd := fun a h => by
    rcases h with h | rfl
    · rw [upd_ne (s.fzne hp h)]; exact s.fzd a h
    · exact ⟨_, upd_same, (fun ps q => by cases q), (fun f q => by cases q)⟩
  dis := fun n a h q => by
    rcases q with q | rfl
    · exact s.dis n a h q
    · exact s.ne hp h rfl
  rsd := fun a h => by
    rw [upd_ne (s.rsne hp h)]
    exact ⟨(s.rsd a h).1, (s.rsd a h).2.1, fun q => q.elim (s.rsd a h).2.2 (s.rsne hp h)⟩
  obj := fun n a ob h h' => (s.obj n a ob h h').ext (ext_frz s hp).toExt0 (upd_ne (s.ne hp h))
theorem drel_frz {ds : List D} {vs : List V} (s : SRel K W H S) (hp : H p = none) (h : DRels K W H ds vs) : DRel K (W.frz p) (upd H p (.lst vs)) (.lst ds) (.ref p) := by
  unfold DRel
  exact ⟨p, vs, rfl, ⟨.inr rfl, upd_same⟩, h.ext (ext_frz s hp)⟩
theorem drel_tup {ds : List D} {vs : List V} (s : SRel K W H S) (hp : H p = none) (h : DRels K W H ds vs) : DRel K W (upd H p (.tup vs)) (.tup ds) (.ref p) := by
  unfold DRel
  exact ⟨p, vs, rfl, .inl (.inl upd_same), h.ext (ext_more s hp)⟩
/-- a new object of the store -/
theorem SRel.new (s : SRel K W H S) (hp : H p = none) (hm : Mu (some o)) (h : ORel K (W.add p) (upd H p o) p ob) : SRel K (W.add p) (upd H p o) (S ++ [ob]) where
  tab := tabs_more s.tab hp
  len := by show (W.m ++ [p]).length = _; simp [s.len]
  inj := by
    show (W.m ++ [p]).Nodup
    rw [List.nodup_append]
    refine ⟨s.inj, by simp, ?_⟩
    intro a ha b hb
    simp at hb; subst hb
    obtain ⟨n, hn⟩ := List.getElem?_of_mem ha
    exact s.ne hp hn
  dom := fun n a h => by
    have h : (W.m ++ [p])[n]? = some a := h
    by_cases c : n < W.m.length
    · rw [List.getElem?_append_left c] at h
      rw [upd_ne (s.ne hp h)]; exact s.dom n a h
    · rw [List.getElem?_append_right (by omega)] at h
      have : a = p := by
        cases e : n - W.m.length with
        | zero => rw [e] at h; simpa using h.symm
        | succ k => rw [e] at h; simp at h
      subst this
      rw [upd_same]; exact hm
  fzd := fun a h => by rw [upd_ne (s.fzne hp h)]; exact s.fzd a h
  dis := fun n a h q => by
    have h : (W.m ++ [p])[n]? = some a := h
    by_cases c : n < W.m.length
    · rw [List.getElem?_append_left c] at h
      exact s.dis n a h q
    · rw [List.getElem?_append_right (by omega)] at h
      have : a = p := by
        cases e : n - W.m.length with
        | zero => rw [e] at h; simpa using h.symm
        | succ k => rw [e] at h; simp at h
      subst this
      exact s.fzne hp q rfl
  rsd := fun a h => by
    rw [upd_ne (s.rsne hp h)]
    refine ⟨(s.rsd a h).1, fun q => ?_, (s.rsd a h).2.2⟩
    rcases List.mem_append.mp (show a ∈ W.m ++ [p] from q) with q | q
    · exact (s.rsd a h).2.1 q
    · exact s.rsne hp h (by simpa using q)
  obj := fun n a ob' h0 h' => by
    have h0 : (W.m ++ [p])[n]? = some a := h0
    by_cases c : n < W.m.length
    · rw [List.getElem?_append_left c] at h0
      rw [List.getElem?_append_left (by rw [← s.len]; exact c)] at h'
      exact (s.obj n a ob' h0 h').ext (ext_add s hp).toExt0 (upd_ne (s.ne hp h0))
    · rw [List.getElem?_append_right (by omega)] at h0
      rw [List.getElem?_append_right (by rw [← s.len]; omega)] at h'
      cases e : n - W.m.length with
      | zero =>
        rw [e] at h0; rw [← s.len, e] at h'
        simp at h0 h'; subst h0; subst h'
        exact h
      | succ k => rw [e] at h0; simp at h0
theorem drel_add (s : SRel K W H S) {H' : Hp} : DRel K (W.add p) H' (.ref S.length) (.ref p) := by
  unfold DRel
  refine ⟨p, rfl, ?_⟩
  show (W.m ++ [p])[S.length]? = _
  rw [← s.len]; simp
/-- an object of the store changes -/
theorem ext_upd0 (s : SRel K W H S) (hn : W.m[n]? = some a) : Ext0 K W H W (upd H a o) where
  m := fun _ _ q => q
  fz := fun _ q => q
  tup := fun b vs h => by
    have hm := s.dom n a hn
    rcases h with (h | ⟨u, h⟩) | h
    · refine .inl (.inl ?_)
      rw [upd_ne (by rintro rfl; rw [h] at hm; exact hm)]; exact h
    · refine .inl (.inr ⟨u, ?_⟩)
      rw [upd_ne (by rintro rfl; rw [h] at hm; exact hm)]; exact h
    · exact .inr h
  lst := fun b vs f h => by
    have hb : b ≠ a := by rintro rfl; exact s.dis n _ hn f
    rw [upd_ne hb]; exact h
  scr := fun b o vs h => by
    have hm := s.dom n a hn
    rw [upd_ne (by rintro rfl; rw [h] at hm; exact hm)]; exact h
theorem ext_upd (s : SRel K W H S) (hn : W.m[n]? = some a) : Ext K W H W (upd H a o) :=
  ⟨ext_upd0 s hn, fun b h => ⟨h, upd_ne (by rintro rfl; exact (s.rsd _ h).2.1 (List.mem_of_getElem? hn))⟩⟩
theorem SRel.upd (s : SRel K W H S) (hn : W.m[n]? = some a) (hm : Mu (some o)) (h : ORel K W (L2.upd H a o) a ob) : SRel K W (L2.upd H a o) (S.set n ob) where
  tab := tabs_upd s.tab (mu_nt (s.dom n a hn))
  len := by rw [List.length_set]; exact s.len
  inj := s.inj
  dom := fun k b hb => by
    by_cases c : b = a
    · subst c; rw [upd_same]; exact hm
    · rw [upd_ne c]; exact s.dom k b hb
  fzd := fun b f => by
    have hb : b ≠ a := by rintro rfl; exact s.dis n _ hn f
    rw [upd_ne hb]; exact s.fzd b f
  dis := s.dis
  rsd := fun b hb => by
    rw [upd_ne (by rintro rfl; exact (s.rsd _ hb).2.1 (List.mem_of_getElem? hn))]; exact s.rsd b hb
  obj := fun k b ob' hb h' => by
    by_cases c : k = n
    · subst c
      have e : b = a := by rw [hn] at hb; exact (Option.some.inj hb).symm
      subst e
      have hl : k < S.length := by rw [← s.len]; exact (List.getElem?_eq_some_iff.mp hb).1
      rw [List.getElem?_set_self hl] at h'
      cases h'
      exact h
    · rw [List.getElem?_set_ne (fun q => c q.symm)] at h'
      have hne : b ≠ a := by
        rintro rfl
        exact c ((List.getElem_inj s.inj).mp ((List.getElem?_eq_some_iff.mp hb).2.trans (List.getElem?_eq_some_iff.mp hn).2.symm))
      exact (s.obj k b ob' hb h').ext (ext_upd0 s hn) (upd_ne hne)
theorem SRel.at (s : SRel K W H S) (h : S[n]? = some ob) : ∃ a, W.m[n]? = some a ∧ ORel K W H a ob := by
  have hl : n < W.m.length := by rw [s.len]; exact (List.getElem?_eq_some_iff.mp h).1
  exact ⟨_, List.getElem?_eq_getElem hl, s.obj n _ ob (List.getElem?_eq_getElem hl) h⟩
end store

/-! ### results -/
inductive Rs (α : Type) where
  | ok (a : α) (S : So) | ex (C : Addr) (S : So) | no
def Rs.bind {α β : Type} : Rs α → (α → So → Rs β) → Rs β
  | .ok a S, k => k a S
  | .ex C S, _ => .ex C S
  | .no, _ => .no
inductive Fl where
  | nx (e : En) (S : So) | rt (d : D) (S : So) | bk (e : En) (S : So) | ct (e : En) (S : So) | ex (C : Addr) (e : En) (S : So) | no
abbrev FE := En → So → Rs D
abbrev FT := En → So → Rs Bool
abbrev FA := En → So → Rs (List D)
abbrev FS := En → So → Fl

section post
variable [Tab] (K : PySem.W.Frag)
def Post {α β : Type} (R : PySem.W.Frag → Wd → Hp → α → β → Prop) (W : Wd) (H : Hp) (r : Rs α) (Q : β → Hp → Prop) (E : XK) : Prop := match r with
  | .ok a S => ∀ W' H' b, Ext K W H W' H' → SRel K W' H' S → R K W' H' a b → Q b H'
  | .ex C S => ∀ W' H' d, Ext K W H W' H' → SRel K W' H' S → E (.ref C) d H'
  | .no => False
def PostS (W : Wd) (H : Hp) (r : Fl) (Z : Ends) (Wx : WX) : Prop := match r with
  | .nx e S => ∀ W' H' σ, Ext K W H W' H' → SRel K W' H' S → ERel K W' H' e σ → Z.nx σ H'
  | .rt d S => ∀ W' H' v, Ext K W H W' H' → SRel K W' H' S → DRel K W' H' d v → Z.rt v H'
  | .bk e S => ∀ W' H' σ, Ext K W H W' H' → SRel K W' H' S → ERel K W' H' e σ → Z.bk σ H'
  | .ct e S => ∀ W' H' σ, Ext K W H W' H' → SRel K W' H' S → ERel K W' H' e σ → Z.ct σ H'
  | .ex C e S => ∀ W' H' σ d, Ext K W H W' H' → SRel K W' H' S → ERel K W' H' e σ → Wx (.ref C) d σ H'
  | .no => False
end post
end PF

namespace PF
open PySem L2
variable [Tab]
/-! ### the weakest readings -/
section weak
variable (X : Cx)
def wE (e : Expr) : TE := fun σ H Q => ∀ (pins : List (Addr × Obj)) (s : Shared), Inv X pins σ H s → wpAny (model X.prog X.w) X.A (eval e X.env) (EP X pins σ Q) X.xe s
def wT (e : Expr) : TT := fun σ H Q => ∀ (pins : List (Addr × Obj)) (s : Shared), Inv X pins σ H s → wpAny (model X.prog X.w) X.A (isTrue e X.env (eval e X.env)) (TP X pins σ Q) X.xe s
def wW (e : Expr) : TT := fun σ H Q => ∀ (whole : Sem Value) (pins : List (Addr × Obj)) (s : Shared), Inv X pins σ H s → wpAny (model X.prog X.w) X.A (isTrue e X.env whole) (TP X pins σ Q) X.xe s
def wA (es : List Expr) : TA := fun σ H Q => ∀ (pos : Pos) (pins : List (Addr × Obj)) (s : Shared), Inv X pins σ H s → wpAny (model X.prog X.w) X.A (spliced (backTo pos (starEach es X.env))) (AP X pins σ Q) X.xe s
def wS (st : Stmt) : TS := fun Z σ H => ∀ (pins : List (Addr × Obj)) (s : Shared), Inv X pins σ H s → wpAny (model X.prog X.w) X.A (exec st X.env) (SP X pins Z) X.xe s
def wSs (st : List Stmt) : TS := fun Z σ H => ∀ (pins : List (Addr × Obj)) (s : Shared), Inv X pins σ H s → wpAny (model X.prog X.w) X.A (execs st X.env) (SP X pins Z) X.xe s
def wG (tg : Expr) : TG := fun v σ H Q => ∀ (pins : List (Addr × Obj)) (s : Shared) (u : Value), Inv X pins σ H s → RelV v u → wpAny (model X.prog X.w) X.A (assign tg X.env u) (fun _ s' => ∃ σ' H', Inv X pins σ' H' s' ∧ Q σ' H') X.xe s
def wGs (ts : List Expr) : TGs := fun vs σ H Q => ∀ (pins : List (Addr × Obj)) (s : Shared) (us : List Value), Inv X pins σ H s → Vals vs us → wpAny (model X.prog X.w) X.A (assignInOrder ((assignEach ts X.env).map (·.2)) us) (fun _ s' => ∃ σ' H', Inv X pins σ' H' s' ∧ Q σ' H') X.xe s
def wI (tg iter : Expr) : TI := fun σ H R => ∀ (pins : List (Addr × Obj)) (s : Shared), Inv X pins σ H s → wpAny (model X.prog X.w) X.A (eval iter X.env) (fun v s1 => wpAny (model X.prog X.w) X.A (pyIter v) (PIE X pins σ tg R) X.xe s1) X.xe s
def wO (e : Option Expr) : TO := fun σ H Q => ∀ (pins : List (Addr × Obj)) (s : Shared), Inv X pins σ H s → wpAny (model X.prog X.w) X.A (evalPart e X.env) (fun u s' => ∃ o H', Inv X pins σ H' s' ∧ IsPart u o ∧ Q o H') X.xe s
end weak
section weak
variable {X : Cx} {e tg iter : Expr} {es : List Expr} {st : Stmt} {sts : List Stmt}
theorem pe_w : PE X e (wE X e) := ⟨fun pins s σ H Q I h => h pins s I⟩
theorem pt_w : PT X e (wT X e) := ⟨fun pins s σ H Q I h => h pins s I⟩
theorem pw_w : PW X e (wW X e) := ⟨fun whole pins s σ H Q I h => h whole pins s I⟩
theorem pa_w : PA X es (wA X es) := ⟨fun pos pins s σ H Q I h => h pos pins s I⟩
theorem ps_w : PS X st (wS X st) := ⟨fun pins s σ H Z I h => h pins s I⟩
theorem pss_w : PSs X sts (wSs X sts) := ⟨fun pins s σ H Z I h => h pins s I⟩
theorem pg_w : PG X e (wG X e) := ⟨fun pins s σ H v u Q I r h => h pins s u I r⟩
theorem pgs_w : PGs X es (wGs X es) := ⟨fun pins s σ H v u Q I r h => h pins s u I r⟩
theorem pi_w : PI X tg iter (wI X tg iter) := ⟨fun pins s σ H R I h => h pins s I⟩
theorem po_w {o : Option Expr} : PO X o (wO X o) := ⟨fun pins s σ H Q I h => h pins s I⟩
variable {σ : St} {H : Hp}
theorem PE_w {t : TE} {Q : VK} (p : PE X e t) (h : t σ H Q) : wE X e σ H Q := fun pins s I => p.run pins s σ H Q I h
theorem PT_w {t : TT} {Q : Bool → Hp → Prop} (p : PT X e t) (h : t σ H Q) : wT X e σ H Q := fun pins s I => p.run pins s σ H Q I h
theorem PW_w {t : TT} {Q : Bool → Hp → Prop} (p : PW X e t) (h : t σ H Q) : wW X e σ H Q := fun whole pins s I => p.run whole pins s σ H Q I h
theorem PA_w {t : TA} {Q : List V → Hp → Prop} (p : PA X es t) (h : t σ H Q) : wA X es σ H Q := fun pos pins s I => p.run pos pins s σ H Q I h
theorem PS_w {t : TS} {Z : Ends} (p : PS X st t) (h : t Z σ H) : wS X st Z σ H := fun pins s I => p.run pins s σ H Z I h
theorem PSs_w {t : TS} {Z : Ends} (p : PSs X sts t) (h : t Z σ H) : wSs X sts Z σ H := fun pins s I => p.run pins s σ H Z I h
theorem PG_w {t : TG} {v : V} {Q : St → Hp → Prop} (p : PG X e t) (h : t v σ H Q) : wG X e v σ H Q := fun pins s u I r => p.run pins s σ H v u Q I r h
theorem PGs_w {t : TGs} {v : List V} {Q : St → Hp → Prop} (p : PGs X es t) (h : t v σ H Q) : wGs X es v σ H Q := fun pins s u I r => p.run pins s σ H v u Q I r h
theorem PI_w {t : TI} {R : It → Hp → Prop} (p : PI X tg iter t) (h : t σ H R) : wI X tg iter σ H R := fun pins s I => p.run pins s σ H R I h
theorem PO_w {o : Option Expr} {t : TO} {Q : Option Int → Hp → Prop} (p : PO X o t) (h : t σ H Q) : wO X o σ H Q := fun pins s I => p.run pins s σ H Q I h
end weak

/-! ### posts -/
section post
variable {K : PySem.W.Frag} {W W1 : Wd} {H H1 : Hp} {α β γ δ : Type} {R : PySem.W.Frag → Wd → Hp → α → γ → Prop} {R' : PySem.W.Frag → Wd → Hp → β → δ → Prop}
theorem Post.later {r : Rs α} {Q : γ → Hp → Prop} {E : XK} (h : Post K R W H r Q E) (e : Ext K W H W1 H1) : Post K R W1 H1 r Q E := by
  cases r with
  | ok a S => exact fun W' H' b x => h W' H' b (e.trans x)
  | ex C S => exact fun W' H' d x => h W' H' d (e.trans x)
  | no => exact h
theorem Post.bind {r : Rs α} {k : α → So → Rs β} {Q : δ → Hp → Prop} {Q1 : γ → Hp → Prop} {E : XK} (h : Post K R' W H (r.bind k) Q E)
    (c : ∀ a S1 W1 H1 x, Ext K W H W1 H1 → SRel K W1 H1 S1 → R K W1 H1 a x → Post K R' W1 H1 (k a S1) Q E → Q1 x H1) : Post K R W H r Q1 E := by
  cases r with
  | ok a S => exact fun W' H' b x s q => c a S W' H' b x s q (Post.later h x)
  | ex C S => exact h
  | no => exact h
theorem PostS.later {r : Fl} {Z : Ends} {Wx : WX} (h : PostS K W H r Z Wx) (e : Ext K W H W1 H1) : PostS K W1 H1 r Z Wx := by
  cases r with
  | nx a S => exact fun W' H' b x => h W' H' b (e.trans x)
  | rt a S => exact fun W' H' b x => h W' H' b (e.trans x)
  | bk a S => exact fun W' H' b x => h W' H' b (e.trans x)
  | ct a S => exact fun W' H' b x => h W' H' b (e.trans x)
  | ex C a S => exact fun W' H' b d x => h W' H' b d (e.trans x)
  | no => exact h
theorem Post.here {a : α} {S : So} {Q : γ → Hp → Prop} {E : XK} {b : γ} (h : Post K R W H (.ok a S) Q E) (s : SRel K W H S) (r : R K W H a b) : Q b H := h W H b Ext.refl s r
end post
def EqB : PySem.W.Frag → Wd → Hp → Bool → Bool → Prop := fun _ _ _ a b => b = a
/-! ### the judgements -/
def Wish (Wx : WX) (σ : St) : XK := fun c d H => Wx c d σ H
structure PFE (X : Cx) (Wx : WX) (e : Expr) (f : FE) : Prop where
  run : ∀ (W : Wd) (H : Hp) (σ : St) (en : En) (S : So) (Q : VK), ERel X.K W H en σ → SRel X.K W H S → Post X.K DRel W H (f en S) Q (Wish Wx σ) → wE X e σ H Q
structure PFT (X : Cx) (Wx : WX) (e : Expr) (f : FT) : Prop where
  run : ∀ (W : Wd) (H : Hp) (σ : St) (en : En) (S : So) (Q : Bool → Hp → Prop), ERel X.K W H en σ → SRel X.K W H S → Post X.K EqB W H (f en S) Q (Wish Wx σ) → wT X e σ H Q
structure PFW (X : Cx) (Wx : WX) (e : Expr) (f : FT) : Prop where
  run : ∀ (W : Wd) (H : Hp) (σ : St) (en : En) (S : So) (Q : Bool → Hp → Prop), ERel X.K W H en σ → SRel X.K W H S → Post X.K EqB W H (f en S) Q (Wish Wx σ) → wW X e σ H Q
structure PFA (X : Cx) (Wx : WX) (es : List Expr) (f : FA) : Prop where
  run : ∀ (W : Wd) (H : Hp) (σ : St) (en : En) (S : So) (Q : List V → Hp → Prop), ERel X.K W H en σ → SRel X.K W H S → Post X.K DRels W H (f en S) Q (Wish Wx σ) → wA X es σ H Q
structure PFS (X : Cx) (Wx : WX) (st : Stmt) (f : FS) : Prop where
  run : ∀ (W : Wd) (H : Hp) (σ : St) (en : En) (S : So) (Z : Ends), ERel X.K W H en σ → SRel X.K W H S → PostS X.K W H (f en S) Z Wx → wS X st Z σ H
structure PFB (X : Cx) (Wx : WX) (st : List Stmt) (f : FS) : Prop where
  run : ∀ (W : Wd) (H : Hp) (σ : St) (en : En) (S : So) (Z : Ends), ERel X.K W H en σ → SRel X.K W H S → PostS X.K W H (f en S) Z Wx → wSs X st Z σ H
/-- targets -/
abbrev FG := D → En → So → Option (En × So)
abbrev FGs := List D → En → So → Option (En × So)
def PostG (K : PySem.W.Frag) (W : Wd) (H : Hp) (r : Option (En × So)) (Q : St → Hp → Prop) : Prop := match r with
  | some (e, S) => ∀ W' H' σ, Ext K W H W' H' → SRel K W' H' S → ERel K W' H' e σ → Q σ H'
  | none => False
structure PFG (X : Cx) (e : Expr) (g : FG) : Prop where
  run : ∀ (W : Wd) (H : Hp) (σ : St) (en : En) (S : So) (d : D) (v : V) (Q : St → Hp → Prop), ERel X.K W H en σ → SRel X.K W H S → DRel X.K W H d v → PostG X.K W H (g d en S) Q → wG X e v σ H Q
structure PFGs (X : Cx) (e : List Expr) (g : FGs) : Prop where
  run : ∀ (W : Wd) (H : Hp) (σ : St) (en : En) (S : So) (d : List D) (v : List V) (Q : St → Hp → Prop), ERel X.K W H en σ → SRel X.K W H S → DRels X.K W H d v → PostG X.K W H (g d en S) Q → wGs X e v σ H Q
/-- what is walked: fixed items, or a list of the store as it stands at each turn -/
inductive ItD where
  | items (ds : List D) | live (n : Nat)
def ItD.at (S : So) (i : Nat) : ItD → Option (Option D)
  | .items ds => some ds[i]?
  | .live n => match S[n]? with
    | some (.lst ds) => some ds[i]?
    | _ => none
def ItR (K : PySem.W.Frag) (W : Wd) (H : Hp) (t : ItD) (J : It) : Prop := ∀ W' H' S, Ext K W H W' H' → SRel K W' H' S → ∀ (i : Nat), match t.at S i with
  | some (some d) => J.go i H' ∧ ∀ x H'', J.yld i H' x H'' → Ext K W' H' W' H'' ∧ SRel K W' H'' S ∧ DRel K W' H'' d x
  | some none => J.stop i H'
  | none => True
theorem ItR.ext {K : PySem.W.Frag} {W W' : Wd} {H H' : Hp} {t : ItD} {J : It} (h : ItR K W H t J) (e : Ext K W H W' H') : ItR K W' H' t J := fun W1 H1 S x => h W1 H1 S (e.trans x)
abbrev FI := En → So → Rs ItD
structure PFI (X : Cx) (Wx : WX) (tg iter : Expr) (f : FI) : Prop where
  run : ∀ (W : Wd) (H : Hp) (σ : St) (en : En) (S : So) (Q : It → Hp → Prop), ERel X.K W H en σ → SRel X.K W H S → Post X.K ItR W H (f en S) Q (Wish Wx σ) → wI X tg iter σ H Q

/-! ### names, constants, operators -/
def fVar (i : Nat) : FE := fun en S => match en[i]? with
  | some (some d) => .ok d S
  | _ => .no
def fC (d : D) : FE := fun _ S => .ok d S
/-- from an operation on data -/
def ofO : Option (D × So) → Rs D
  | some (d, S) => .ok d S
  | none => .no
abbrev G2 := D → D → So → Option (D × So)
def fOp (g : G2) (fa fb : FE) : FE := fun en S => (fa en S).bind fun a S1 => (fb en S1).bind fun b S2 => ofO (g a b S2)
def PostO (K : PySem.W.Frag) (W : Wd) (H : Hp) (r : Option (D × So)) (Q : VK) : Prop := match r with
  | some (d, S) => ∀ W' H' v, Ext K W H W' H' → SRel K W' H' S → DRel K W' H' d v → Q v H'
  | none => False
theorem postO {K : PySem.W.Frag} {W : Wd} {H : Hp} {r : Option (D × So)} {Q : VK} {E : XK} (h : Post K DRel W H (ofO r) Q E) : PostO K W H r Q := by
  cases r with
  | none => exact h
  | some p => obtain ⟨d, S⟩ := p; exact h
/-- an operation by values is told by one on data -/
def OpD (K : PySem.W.Frag) (r : R2) (g : G2) : Prop := ∀ (W : Wd) (H : Hp) (S : So) (x y : V) (a b : D) (Q : VK), SRel K W H S → DRel K W H a x → DRel K W H b y → PostO K W H (g a b S) Q → r x y H Q
theorem OpD.or {K : PySem.W.Frag} {r r' : R2} {g g' : G2} (h : OpD K r g) (h' : OpD K r' g') : OpD K (fun x y H Q => r x y H Q ∨ r' x y H Q) (fun a b S => (g a b S).orElse fun _ => g' a b S) := by
  intro W H S x y a b Q s ra rb p
  cases e : g a b S with
  | none => dsimp only at p; rw [e] at p; exact .inr (h' W H S x y a b Q s ra rb p)
  | some q => dsimp only at p; rw [e] at p; exact .inl (h W H S x y a b Q s ra rb (by rw [e]; exact p))
section rules
variable {X : Cx} {Wx : WX} {a b c e : Expr} {es : List Expr} {fa fb fc : FE} {pos : Pos}
theorem pf_var (i : Nat) {x : Str} {pos : Pos} (hN : X.N[i]? = some x := by rfl) (hv : Vis X.env.scope x := by first | exact Or.inl rfl | exact Or.inr (Or.inl rfl) | exact Or.inr (Or.inr rfl)) (hd : (x == ("__debug__" : Str)) = false := by decide)
    (hcd : (x == ("__classdict__" : Str)) = false := by decide) : PFE X Wx (.Name x pos) (fVar i) := by
  refine ⟨fun W H σ en S Q he hs hp => PE_w (pe_var hN hv hd hcd) ?_⟩
  unfold fVar at hp
  split at hp
  · rename_i d hd'
    obtain ⟨v, h1, h2⟩ := he.2 i d hd'
    exact ⟨v, h1, hp.here hs h2⟩
  · exact hp.elim
theorem pf_const {v : V} {d : D} (p : PE X e (tC v)) (h : ∀ W H, DRel X.K W H d v) : PFE X Wx e (fC d) := ⟨fun W H σ en S Q he hs hp => PE_w p (Post.here hp hs (h W H))⟩
theorem pf_int {i j pos} : PFE X Wx (.Constant (.int i) j pos) (fC (.int i)) := pf_const pe_int fun _ _ => by unfold DRel; rfl
theorem pf_bl {i j pos} : PFE X Wx (.Constant (.bool i) j pos) (fC (.bl i)) := pf_const pe_bl fun _ _ => by unfold DRel; rfl
theorem pf_non {j pos} : PFE X Wx (.Constant .none j pos) (fC .non) := pf_const pe_non fun _ _ => by unfold DRel; rfl
theorem pf_str {i j pos} : PFE X Wx (.Constant (.str i) j pos) (fC (.str i)) := pf_const pe_str fun _ _ => by unfold DRel; rfl
/-- a module's constant -/
theorem pf_glob {x : Str} {i : Int} {u : Value} {pos : Pos} (hg : Gl X x) (hm : X.mg x = some u) (r : RelV (.int i) u) (hd : (x == ("__debug__" : Str)) = false := by decide) : PFE X Wx (.Name x pos) (fC (.int i)) :=
  pf_const (pe_glob hg hm r hd) fun _ _ => by unfold DRel; rfl
theorem pf_globS {x : Str} {i : Str} {u : Value} {pos : Pos} (hg : Gl X x) (hm : X.mg x = some u) (r : RelV (.str i) u) (hd : (x == ("__debug__" : Str)) = false := by decide) : PFE X Wx (.Name x pos) (fC (.str i)) :=
  pf_const (pe_glob hg hm r hd) fun _ _ => by unfold DRel; rfl
/-- two expressions, then a thing by values -/
theorem bind2 {W : Wd} {H : Hp} {σ : St} {en : En} {S : So} {Q : VK} {g : G2} {r : V → V → Hp → Prop} (ha : PFE X Wx a fa) (hb : PFE X Wx b fb) (he : ERel X.K W H en σ) (hs : SRel X.K W H S) (hp : Post X.K DRel W H (fOp g fa fb en S) Q (Wish Wx σ))
    (h : ∀ W2 H2 S2 x y d1 d2, Ext X.K W H W2 H2 → SRel X.K W2 H2 S2 → DRel X.K W2 H2 d1 x → DRel X.K W2 H2 d2 y → PostO X.K W2 H2 (g d1 d2 S2) Q → r x y H2) : wE X a σ H fun x H1 => wE X b σ H1 fun y H2 => r x y H2 := by
  refine ha.run W H σ en S _ he hs (Post.bind hp fun d1 S1 W1 H1 x e1 s1 r1 p1 => ?_)
  refine hb.run W1 H1 σ en S1 _ (he.ext e1) s1 (Post.bind p1 fun d2 S2 W2 H2 y e2 s2 r2 p2 => ?_)
  exact h W2 H2 S2 x y d1 d2 (e1.trans e2) s2 (r1.ext e2) r2 (postO p2)
theorem pf_op {op : Operator} {r : R2} {g : G2} (ho : OpR X (binaryOp op) r) (hg : OpD X.K r g) (ha : PFE X Wx a fa) (hb : PFE X Wx b fb) : PFE X Wx (.BinOp a op b pos) (fOp g fa fb) :=
  ⟨fun W H σ en S Q he hs hp => PE_w (pe_op ho pe_w pe_w) (bind2 ha hb he hs hp fun W2 H2 S2 x y d1 d2 _ s2 r1 r2 p => hg W2 H2 S2 x y d1 d2 Q s2 r1 r2 p)⟩
theorem pf_cmp {op : CmpOp} {r : R2} {g : G2} (ho : OpR X (compareOp op) r) (hg : OpD X.K r g) (ha : PFE X Wx a fa) (hb : PFE X Wx b fb) (hm : behindInMarks op b = false) : PFE X Wx (.Compare a [op] [b] pos) (fOp g fa fb) :=
  ⟨fun W H σ en S Q he hs hp => PE_w (pe_cmpR ho pe_w pe_w hm) (bind2 ha hb he hs hp fun W2 H2 S2 x y d1 d2 _ s2 r1 r2 p => hg W2 H2 S2 x y d1 d2 Q s2 r1 r2 p)⟩
/-- a comparison as a test -/
def isB : D → So → Rs Bool
  | .bl b, S => .ok b S
  | _, _ => .no
def fTst (f : FE) : FT := fun en S => (f en S).bind isB
theorem pft_cmp {op : CmpOp} {r : R2} {g : G2} (ho : OpR X (compareOp op) r) (hg : OpD X.K r g) (ha : PFE X Wx a fa) (hb : PFE X Wx b fb) (hm : behindInMarks op b = false) : PFT X Wx (.Compare a [op] [b] pos) (fTst (fOp g fa fb)) := by
  refine ⟨fun W H σ en S Q he hs hp => PT_w (pt_cmpR ho pe_w pe_w hm) ?_⟩
  have hp' := Post.bind (R := DRel) (Q1 := fun x H' => ∃ k, x = .bl k ∧ Q k H') hp fun d S1 W1 H1 x e1 s1 r1 p1 => by
    cases d with
    | bl b => unfold DRel at r1; exact ⟨b, r1, p1.here s1 rfl⟩
    | _ => exact p1.elim
  exact bind2 ha hb he hs hp' fun W2 H2 S2 x y d1 d2 _ s2 r1 r2 p => hg W2 H2 S2 x y d1 d2 _ s2 r1 r2 p
end rules
end PF

namespace PF
open PySem L2
variable [Tab]
section tests
variable {X : Cx} {Wx : WX} {a b c e : Expr} {es rest : List Expr} {fa fb fc : FE} {ga gb : FT} {pos : Pos}
/-- truth of data -/
def truD (S : So) : D → Option Bool
  | .non => some false
  | .bl b => some b
  | .int i => some (i != 0)
  | .str y => if y.length ≤ sizeLine then some ((y.length : Int) != 0) else none
  | .tup ds => some (!ds.isEmpty)
  | .scr _ => none
  | .lst ds => some (!ds.isEmpty)
  | .ref n => match S[n]? with
    | some (.lst ds) => some (!ds.isEmpty)
    | some (.dic kvs) => some (!kvs.isEmpty)
    | _ => none
def isT (d : D) (S : So) : Rs Bool := match truD S d with
  | some b => .ok b S
  | none => .no
theorem isEmpty_rel {K : PySem.W.Frag} {W : Wd} {H : Hp} {ds : List D} {vs : List V} (h : DRels K W H ds vs) : ds.isEmpty = vs.isEmpty := by
  cases ds with
  | nil => unfold DRels at h; subst h; rfl
  | cons d ds => unfold DRels at h; obtain ⟨v, r, rfl, _⟩ := h; rfl
theorem kempty_rel {K : PySem.W.Frag} {W : Wd} {H : Hp} {ds : List (Key × D)} {vs : List (Key × V)} (h : KRel K W H ds vs) : ds.isEmpty = vs.isEmpty := by
  cases ds with
  | nil => unfold KRel at h; subst h; rfl
  | cons d ds => obtain ⟨k, d⟩ := d; unfold KRel at h; obtain ⟨v, r, rfl, _⟩ := h; rfl
theorem tru_rel {K : PySem.W.Frag} {W : Wd} {H : Hp} {S : So} {d : D} {v : V} {k : Bool} (s : SRel K W H S) (r : DRel K W H d v) (h : truD S d = some k) : TruV K v H k := by
  cases d with
  | non => unfold DRel at r; subst r; simp only [truD] at h; exact (Option.some.inj h).symm
  | bl b => unfold DRel at r; subst r; simp only [truD] at h; exact (Option.some.inj h).symm
  | int b => unfold DRel at r; subst r; simp only [truD] at h; exact (Option.some.inj h).symm
  | str b =>
    unfold DRel at r; subst r; simp only [truD] at h
    split at h
    · exact ⟨by assumption, (Option.some.inj h).symm⟩
    · cases h
  | tup ds =>
    unfold DRel at r; obtain ⟨a, vs, rfl, h1, h2⟩ := r
    simp only [truD] at h
    exact .inr (.inl ⟨vs, h1, by rw [← isEmpty_rel h2]; exact (Option.some.inj h).symm⟩)
  | lst ds =>
    unfold DRel at r; obtain ⟨a, vs, rfl, h1, h2⟩ := r
    simp only [truD] at h
    exact .inl ⟨vs, h1.sq, by rw [← isEmpty_rel h2]; exact (Option.some.inj h).symm⟩
  | ref n =>
    unfold DRel at r; obtain ⟨a, rfl, h1⟩ := r
    simp only [truD] at h
    split at h
    · rename_i ds hn
      obtain ⟨vs, h2, h3⟩ := s.obj n a _ h1 hn
      exact .inl ⟨vs, .of h2, by rw [← isEmpty_rel h3]; exact (Option.some.inj h).symm⟩
    · rename_i ds hn
      obtain ⟨vs, h2, h3⟩ := s.obj n a _ h1 hn
      exact .inr (.inr ⟨vs, h2, by rw [← kempty_rel h3]; exact (Option.some.inj h).symm⟩)
    · cases h
  | scr ns => simp only [truD] at h; cases h
def fTru (f : FE) : FT := fun en S => (f en S).bind isT
/-- any expression as a test, by its truth -/
theorem pft_tru (ha : PFE X Wx a fa) (he : ∀ whole, isTrue a X.env whole = (do let v ← whole; standAt a.pos; holding [v] (truthy v)) := by intro _; rfl) : PFT X Wx a (fTru fa) := by
  refine ⟨fun W H σ en S Q he' hs hp => PT_w (pt_truth pe_w he) (ha.run W H σ en S _ he' hs (Post.bind hp fun d S1 W1 H1 x e1 s1 r1 p1 => ?_))⟩
  unfold isT at p1
  split at p1
  · rename_i k hk
    exact ⟨k, tru_rel s1 r1 hk, p1.here s1 rfl⟩
  · exact p1.elim
def fNotT (g : FT) : FT := fun en S => (g en S).bind fun k S1 => .ok (!k) S1
theorem pft_not (ha : PFT X Wx a ga) : PFT X Wx (.UnaryOp .Not a pos) (fNotT ga) := by
  refine ⟨fun W H σ en S Q he hs hp => PT_w (pt_not pt_w) (ha.run W H σ en S _ he hs (Post.bind hp fun d S1 W1 H1 x e1 s1 r1 p1 => ?_))⟩
  cases r1
  exact p1.here s1 rfl
def fAndT (g h : FT) : FT := fun en S => (g en S).bind fun k S1 => if k = true then h en S1 else .ok false S1
def fOrT (g h : FT) : FT := fun en S => (g en S).bind fun k S1 => if k = true then .ok true S1 else h en S1
theorem pfw_and1 (ha : PFT X Wx a ga) : PFW X Wx (.BoolOp .And [a] pos) ga := ⟨fun W H σ en S Q he hs hp => PW_w (pw_and1 pt_w) (ha.run W H σ en S Q he hs hp)⟩
theorem pfw_or1 (ha : PFT X Wx a ga) : PFW X Wx (.BoolOp .Or [a] pos) ga := ⟨fun W H σ en S Q he hs hp => PW_w (pw_or1 pt_w) (ha.run W H σ en S Q he hs hp)⟩
theorem pfw_and (ha : PFT X Wx a ga) (hb : PFW X Wx (.BoolOp .And (b :: rest) pos) gb) : PFW X Wx (.BoolOp .And (a :: b :: rest) pos) (fAndT ga gb) := by
  refine ⟨fun W H σ en S Q he hs hp => PW_w (pw_and pt_w pw_w) (ha.run W H σ en S _ he hs (Post.bind hp fun k S1 W1 H1 x e1 s1 r1 p1 => ?_))⟩
  cases r1
  cases k with
  | true => exact iteT (hb.run W1 H1 σ en S1 Q (he.ext e1) s1 p1)
  | false => exact iteF (p1.here s1 rfl)
theorem pfw_or (ha : PFT X Wx a ga) (hb : PFW X Wx (.BoolOp .Or (b :: rest) pos) gb) : PFW X Wx (.BoolOp .Or (a :: b :: rest) pos) (fOrT ga gb) := by
  refine ⟨fun W H σ en S Q he hs hp => PW_w (pw_or pt_w pw_w) (ha.run W H σ en S _ he hs (Post.bind hp fun k S1 W1 H1 x e1 s1 r1 p1 => ?_))⟩
  cases r1
  cases k with
  | true => exact iteT (p1.here s1 rfl)
  | false => exact iteF (hb.run W1 H1 σ en S1 Q (he.ext e1) s1 p1)
theorem pft_w (h : PFW X Wx a ga) : PFT X Wx a ga := ⟨fun W H σ en S Q he hs hp => PT_w pw_w.pt (h.run W H σ en S Q he hs hp)⟩
/-- as values, bools -/
def fAndV (f g : FE) : FE := fun en S => (f en S).bind fun d S1 => match d with
  | .bl k => if k = true then g en S1 else .ok (.bl false) S1
  | _ => .no
def fOrV (f g : FE) : FE := fun en S => (f en S).bind fun d S1 => match d with
  | .bl k => if k = true then .ok (.bl true) S1 else g en S1
  | _ => .no
def fNotV (f : FE) : FE := fun en S => (f en S).bind fun d S1 => match d with
  | .bl k => .ok (.bl (!k)) S1
  | _ => .no
theorem pf_one {op} (h : PFE X Wx a fa) : PFE X Wx (.BoolOp op [a] pos) fa := ⟨fun W H σ en S Q he hs hp => PE_w (pe_one pe_w) (h.run W H σ en S Q he hs hp)⟩
theorem pf_and (ha : PFE X Wx a fa) (hb : PFE X Wx (.BoolOp .And (b :: rest) pos) fb) : PFE X Wx (.BoolOp .And (a :: b :: rest) pos) (fAndV fa fb) := by
  refine ⟨fun W H σ en S Q he hs hp => PE_w (pe_and pe_w pe_w) (ha.run W H σ en S _ he hs (Post.bind hp fun d S1 W1 H1 x e1 s1 r1 p1 => ?_))⟩
  cases d with
  | bl k =>
    unfold DRel at r1; subst r1
    refine ⟨k, rfl, ?_⟩
    cases k with
    | true => exact iteT (hb.run W1 H1 σ en S1 Q (he.ext e1) s1 p1)
    | false => exact iteF (p1.here s1 (by unfold DRel; rfl))
  | _ => exact p1.elim
theorem pf_or (ha : PFE X Wx a fa) (hb : PFE X Wx (.BoolOp .Or (b :: rest) pos) fb) : PFE X Wx (.BoolOp .Or (a :: b :: rest) pos) (fOrV fa fb) := by
  refine ⟨fun W H σ en S Q he hs hp => PE_w (pe_or pe_w pe_w) (ha.run W H σ en S _ he hs (Post.bind hp fun d S1 W1 H1 x e1 s1 r1 p1 => ?_))⟩
  cases d with
  | bl k =>
    unfold DRel at r1; subst r1
    refine ⟨k, rfl, ?_⟩
    cases k with
    | true => exact iteT (p1.here s1 (by unfold DRel; rfl))
    | false => exact iteF (hb.run W1 H1 σ en S1 Q (he.ext e1) s1 p1)
  | _ => exact p1.elim
theorem pf_not (ha : PFE X Wx a fa) : PFE X Wx (.UnaryOp .Not a pos) (fNotV fa) := by
  refine ⟨fun W H σ en S Q he hs hp => PE_w (pe_not pe_w) (ha.run W H σ en S _ he hs (Post.bind hp fun d S1 W1 H1 x e1 s1 r1 p1 => ?_))⟩
  cases d with
  | bl k => unfold DRel at r1; subst r1; exact ⟨k, rfl, p1.here s1 (by unfold DRel; rfl)⟩
  | _ => exact p1.elim
def fIf (g : FT) (f h : FE) : FE := fun en S => (g en S).bind fun k S1 => if k = true then f en S1 else h en S1
theorem pf_ifExp (hc : PFT X Wx c ga) (ha : PFE X Wx a fa) (hb : PFE X Wx b fb) : PFE X Wx (.IfExp c a b pos) (fIf ga fa fb) := by
  refine ⟨fun W H σ en S Q he hs hp => PE_w (pe_ifExp pt_w pe_w pe_w) (hc.run W H σ en S _ he hs (Post.bind hp fun k S1 W1 H1 x e1 s1 r1 p1 => ?_))⟩
  cases r1
  cases k with
  | true => exact iteT (ha.run W1 H1 σ en S1 Q (he.ext e1) s1 p1)
  | false => exact iteF (hb.run W1 H1 σ en S1 Q (he.ext e1) s1 p1)
/-- a op b op' c -/
def fChain (g g' : G2) (fa fb fc : FE) : FE := fun en S => (fa en S).bind fun x S1 => (fb en S1).bind fun y S2 => (ofO (g x y S2)).bind fun z S3 => match z with
  | .bl k => if k = true then (fc en S3).bind fun w S4 => ofO (g' y w S4) else .ok (.bl false) S3
  | _ => .no
theorem chain_run {r r' : R2} {g g' : G2} (hg : OpD X.K r g) (hg' : OpD X.K r' g') (ha : PFE X Wx a fa) (hb : PFE X Wx b fb) (hc : PFE X Wx c fc) {W : Wd} {H : Hp} {σ : St} {en : En} {S : So} {Q : VK} (he : ERel X.K W H en σ) (hs : SRel X.K W H S)
    (hp : Post X.K DRel W H (fChain g g' fa fb fc en S) Q (Wish Wx σ)) : tChain r r' (wE X a) (wE X b) (wE X c) σ H Q := by
  refine ha.run W H σ en S _ he hs (Post.bind hp fun d1 S1 W1 H1 x e1 s1 r1 p1 => ?_)
  refine hb.run W1 H1 σ en S1 _ (he.ext e1) s1 (Post.bind p1 fun d2 S2 W2 H2 y e2 s2 r2 p2 => ?_)
  refine hg W2 H2 S2 x y d1 d2 _ s2 (r1.ext e2) r2 (postO (Post.bind p2 fun d3 S3 W3 H3 z e3 s3 r3 p3 => ?_))
  cases d3 with
  | bl k =>
    unfold DRel at r3; subst r3
    refine ⟨k, rfl, ?_⟩
    cases k with
    | true =>
      refine iteT (hc.run W3 H3 σ en S3 _ (he.ext ((e1.trans e2).trans e3)) s3 (Post.bind p3 fun d4 S4 W4 H4 w e4 s4 r4 p4 => ?_))
      exact hg' W4 H4 S4 y w d2 d4 Q s4 (r2.ext (e3.trans e4)) r4 (postO p4)
    | false => exact iteF (p3.here s3 (by unfold DRel; rfl))
  | _ => exact p3.elim
theorem pf_chain {op op' : CmpOp} {r r' : R2} {g g' : G2} (ho : OpR X (compareOp op) r) (hg : OpD X.K r g) (ho' : OpR X (compareOp op') r') (hg' : OpD X.K r' g') (ha : PFE X Wx a fa) (hb : PFE X Wx b fb) (hc : PFE X Wx c fc)
    (hm : lastMarks [op, op'] [b, c] = false := by with_unfolding_all rfl) : PFE X Wx (.Compare a [op, op'] [b, c] pos) (fChain g g' fa fb fc) :=
  ⟨fun W H σ en S Q he hs hp => PE_w (pe_chain ho ho' pe_w pe_w pe_w hm) (chain_run hg hg' ha hb hc he hs hp)⟩
theorem pft_chain {op op' : CmpOp} {r r' : R2} {g g' : G2} (ho : OpR X (compareOp op) r) (hg : OpD X.K r g) (ho' : OpR X (compareOp op') r') (hg' : OpD X.K r' g') (ha : PFE X Wx a fa) (hb : PFE X Wx b fb) (hc : PFE X Wx c fc)
    (hm : lastMarks [op, op'] [b, c] = false := by with_unfolding_all rfl) : PFT X Wx (.Compare a [op, op'] [b, c] pos) (fTst (fChain g g' fa fb fc)) := by
  refine ⟨fun W H σ en S Q he hs hp => PT_w (pt_chain ho ho' pe_w pe_w pe_w hm) ?_⟩
  have hp' := Post.bind (R := DRel) (Q1 := fun x H' => ∃ k, x = .bl k ∧ Q k H') hp fun d S1 W1 H1 x e1 s1 r1 p1 => by
    cases d with
    | bl b => unfold DRel at r1; exact ⟨b, r1, p1.here s1 rfl⟩
    | _ => exact p1.elim
  exact chain_run hg hg' ha hb hc he hs hp'
/-! arguments -/
def fNil : FA := fun _ S => .ok [] S
def fCons (f : FE) (g : FA) : FA := fun en S => (f en S).bind fun d S1 => (g en S1).bind fun ds S2 => .ok (d :: ds) S2
theorem pfa_nil : PFA X Wx [] fNil := ⟨fun W H σ en S Q he hs hp => PA_w pa_nil (Post.here hp hs DRels.nil)⟩
theorem pfa_cons {f : FE} {g : FA} (ha : PFE X Wx e f) (hr : PFA X Wx es g) (hs : starEach (e :: es) X.env = (false, eval e X.env) :: starEach es X.env := by rfl) : PFA X Wx (e :: es) (fCons f g) := by
  refine ⟨fun W H σ en S Q he hs' hp => PA_w (pa_cons pe_w pa_w hs) (ha.run W H σ en S _ he hs' (Post.bind hp fun d S1 W1 H1 x e1 s1 r1 p1 => ?_))⟩
  refine hr.run W1 H1 σ en S1 _ (he.ext e1) s1 (Post.bind p1 fun ds S2 W2 H2 xs e2 s2 r2 p2 => ?_)
  exact p2.here s2 (DRels.cons (r1.ext e2) r2)
/-- a new list: frozen, or of the store -/
def newL (mu : Bool) (ds : List D) (S : So) : D × So := if mu = true then (.ref S.length, S ++ [.lst ds]) else (.lst ds, S)
theorem new_list {K : PySem.W.Frag} {W : Wd} {H : Hp} {S : So} {ds : List D} {vs : List V} {Q : VK} {p : Addr} (mu : Bool) (s : SRel K W H S) (r : DRels K W H ds vs) (h : PostO K W H (some (newL mu ds S)) Q) (hp : H p = none) : Q (.ref p) (upd H p (.lst vs)) := by
  cases mu with
  | true => exact h (W.add p) _ (.ref p) (ext_add s hp) (s.new hp trivial ⟨vs, upd_same, r.ext (ext_add s hp)⟩) (drel_add s)
  | false => exact h (W.frz p) _ (.ref p) (ext_frz s hp) (s.frz hp) (drel_frz s hp r)
theorem new_tup {K : PySem.W.Frag} {W : Wd} {H : Hp} {S : So} {ds : List D} {vs : List V} {Q : VK} {p : Addr} (s : SRel K W H S) (r : DRels K W H ds vs) (h : PostO K W H (some (.tup ds, S)) Q) (hp : H p = none) : Q (.ref p) (upd H p (.tup vs)) :=
  h W _ (.ref p) (ext_more s hp) (s.more hp) (drel_tup s hp r)
def fTup (g : FA) : FE := fun en S => (g en S).bind fun ds S1 => if ds.length ≤ sizeLine then .ok (.tup ds) S1 else .no
theorem pf_tup {x1} {g : FA} (h : PFA X Wx es g) : PFE X Wx (.Tuple es x1 pos) (fTup g) := by
  refine ⟨fun W H σ en S Q he hs hp => PE_w (pe_tup pa_w) (h.run W H σ en S _ he hs (Post.bind hp fun ds S1 W1 H1 vs e1 s1 r1 p1 => ?_))⟩
  split at p1
  · exact ⟨by rw [← r1.length]; assumption, fun p hp' => new_tup s1 r1 p1 hp'⟩
  · exact p1.elim
def fLst (mu : Bool) (g : FA) : FE := fun en S => (g en S).bind fun ds S1 => if ds.length ≤ sizeLine then ofO (some (newL mu ds S1)) else .no
theorem pf_lst (mu : Bool) {g : FA} (h : PFA X Wx es g) : PFE X Wx (.List es pos) (fLst mu g) := by
  refine ⟨fun W H σ en S Q he hs hp => PE_w (pe_lst pa_w) (h.run W H σ en S _ he hs (Post.bind hp fun ds S1 W1 H1 vs e1 s1 r1 p1 => ?_))⟩
  split at p1
  · exact ⟨by rw [← r1.length]; assumption, fun p hp' => new_list mu s1 r1 (postO p1) hp'⟩
  · exact p1.elim
end tests

/-! ### statements -/
section stmts
variable {X : Cx} {Wx : WX} {e tg : Expr} {st : Stmt} {rest : List Stmt} {f g : FS} {fe : FE} {gt : FT} {pos : Pos}
def fNext : FS := fun en S => .nx en S
def fSeq (f g : FS) : FS := fun en S => match f en S with
  | .nx e S1 => g e S1
  | o => o
theorem pfb_nil : PFB X Wx [] fNext := ⟨fun W H σ en S Z he hs hp => PSs_w pss_nil (hp W H σ Ext.refl hs he)⟩
theorem pfb_one (h : PFS X Wx st f) : PFB X Wx [st] f := ⟨fun W H σ en S Z he hs hp => PSs_w (pss_one ps_w) (h.run W H σ en S Z he hs hp)⟩
theorem pfb_cons (h : PFS X Wx st f) (hr : PFB X Wx rest g) : PFB X Wx (st :: rest) (fSeq f g) := by
  refine ⟨fun W H σ en S Z he hs hp => PSs_w (pss_cons ps_w pss_w) (h.run W H σ en S _ he hs ?_)⟩
  unfold fSeq at hp
  cases q : f en S with
  | nx e1 S1 => rw [q] at hp; exact fun W' H' σ' x s r => hr.run W' H' σ' e1 S1 Z r s (hp.later x)
  | rt d S1 => rw [q] at hp; exact hp
  | bk d S1 => rw [q] at hp; exact hp
  | ct d S1 => rw [q] at hp; exact hp
  | ex C d S1 => rw [q] at hp; exact hp
  | no => rw [q] at hp; exact hp
/-- from an expression's result -/
def fthen {α : Type} (en : En) (r : Rs α) (k : α → So → Fl) : Fl := match r with
  | .ok a S => k a S
  | .ex C S => .ex C en S
  | .no => .no
theorem post_then {K : PySem.W.Frag} {W : Wd} {H : Hp} {σ : St} {en : En} {α γ : Type} {R : PySem.W.Frag → Wd → Hp → α → γ → Prop} {r : Rs α} {k : α → So → Fl} {Z : Ends} {Q1 : γ → Hp → Prop} (he : ERel K W H en σ) (h : PostS K W H (fthen en r k) Z Wx)
    (c : ∀ a S1 W1 H1 x, Ext K W H W1 H1 → SRel K W1 H1 S1 → R K W1 H1 a x → PostS K W1 H1 (k a S1) Z Wx → Q1 x H1) : Post K R W H r Q1 (Wish Wx σ) := by
  cases r with
  | ok a S => exact fun W' H' b x s q => c a S W' H' b x s q (PostS.later h x)
  | ex C S => exact fun W' H' d x s => h W' H' σ d x s (he.ext x)
  | no => exact h
def fExpr (f : FE) : FS := fun en S => fthen en (f en S) fun _ S1 => .nx en S1
theorem pfs_expr (h : PFE X Wx e fe) (hs : swapsWith e none pos.line X.env = pure false := by rfl) : PFS X Wx (.Expr e pos) (fExpr fe) := by
  refine ⟨fun W H σ en S Z he hs' hp => PS_w (ps_expr pe_w hs) (h.run W H σ en S _ he hs' (post_then he hp fun d S1 W1 H1 x e1 s1 r1 p1 => ?_))⟩
  exact p1 W1 H1 σ Ext.refl s1 (he.ext e1)
def fRet (f : FE) : FS := fun en S => fthen en (f en S) fun d S1 => .rt d S1
theorem pfs_ret (h : PFE X Wx e fe) : PFS X Wx (.Return (some e) pos) (fRet fe) :=
  ⟨fun W H σ en S Z he hs' hp => PS_w (ps_ret pe_w) (h.run W H σ en S _ he hs' (post_then he hp fun d S1 W1 H1 x e1 s1 r1 p1 => p1 W1 H1 x Ext.refl s1 r1))⟩
def fRetN : FS := fun en S => .rt .non S
theorem pfs_retN : PFS X Wx (.Return none pos) fRetN := ⟨fun W H σ en S Z he hs' hp => PS_w ps_retN (hp W H .non Ext.refl hs' (by unfold DRel; rfl))⟩
theorem pfs_pass : PFS X Wx (.Pass pos) fNext := ⟨fun W H σ en S Z he hs' hp => PS_w ps_pass (hp W H σ Ext.refl hs' he)⟩
def fBrk : FS := fun en S => .bk en S
def fCnt : FS := fun en S => .ct en S
theorem pfs_break : PFS X Wx (.Break pos) fBrk := ⟨fun W H σ en S Z he hs' hp => PS_w ps_break (hp W H σ Ext.refl hs' he)⟩
theorem pfs_continue : PFS X Wx (.Continue pos) fCnt := ⟨fun W H σ en S Z he hs' hp => PS_w ps_continue (hp W H σ Ext.refl hs' he)⟩
def fIte (c : FT) (f g : FS) : FS := fun en S => fthen en (c en S) fun k S1 => if k = true then f en S1 else g en S1
theorem pfs_if {c : Expr} {a b : List Stmt} (hc : PFT X Wx c gt) (ha : PFB X Wx a f) (hb : PFB X Wx b g) : PFS X Wx (.If c a b pos) (fIte gt f g) := by
  refine ⟨fun W H σ en S Z he hs' hp => PS_w (ps_if pt_w pss_w pss_w) (hc.run W H σ en S _ he hs' (post_then he hp fun k S1 W1 H1 x e1 s1 r1 p1 => ?_))⟩
  cases r1
  cases k with
  | true => exact iteT (ha.run W1 H1 σ en S1 Z (he.ext e1) s1 p1)
  | false => exact iteF (hb.run W1 H1 σ en S1 Z (he.ext e1) s1 p1)
/-- a statement that is never come to -/
def fNever : FS := fun _ _ => .no
theorem pfs_never : PFS X Wx st fNever := ⟨fun W H σ en S Z he hs' hp => hp.elim⟩
/-! targets -/
def gtName (i : Nat) : FG := fun d en S => some (en.set i (some d), S)
theorem pfg_name {i : Nat} {x : Str} (hN : X.N.Nodup) (hi : X.N[i]? = some x) (hx : Loc X.env.scope x) (hf : X.fn x = true ∨ X.env.scope.names.lookup x = some .local := by first | exact .inl rfl | exact .inr rfl | assumption) : PFG X (.Name x pos) (gtName i) :=
  ⟨fun W H σ en S d v Q he hs r hp => PG_w (pg_name hN hi hx hf) (hp W H _ Ext.refl hs (he.set r))⟩
def gtNil : FGs := fun ds en S => match ds with
  | [] => some (en, S)
  | _ => none
def gtCons (g : FG) (h : FGs) : FGs := fun ds en S => match ds with
  | d :: r => match g d en S with
    | some (e1, S1) => h r e1 S1
    | none => none
  | [] => none
theorem pfgs_nil : PFGs X [] gtNil := by
  refine ⟨fun W H σ en S d v Q he hs r hp => PGs_w pgs_nil ?_⟩
  cases d with
  | nil => unfold DRels at r; exact ⟨r, hp W H σ Ext.refl hs he⟩
  | cons d ds => exact hp.elim
theorem PostG.later {K : PySem.W.Frag} {W W1 : Wd} {H H1 : Hp} {r : Option (En × So)} {Q : St → Hp → Prop} (h : PostG K W H r Q) (x : Ext K W H W1 H1) : PostG K W1 H1 r Q := by
  cases r with
  | none => exact h
  | some p => exact fun W' H' σ y => h W' H' σ (x.trans y)
theorem pfgs_cons {es : List Expr} {g : FG} {h : FGs} (h1 : PFG X e g) (h2 : PFGs X es h) (hs : (assignEach (e :: es) X.env).map (·.2) = assign e X.env :: (assignEach es X.env).map (·.2) := by rfl) : PFGs X (e :: es) (gtCons g h) := by
  refine ⟨fun W H σ en S d v Q he hs' r hp => PGs_w (pgs_cons pg_w pgs_w hs) ?_⟩
  cases d with
  | nil => exact hp.elim
  | cons d ds =>
    unfold DRels at r
    obtain ⟨v1, vr, rfl, r1, r2⟩ := r
    refine ⟨v1, vr, rfl, h1.run W H σ en S d v1 _ he hs' r1 ?_⟩
    unfold gtCons at hp
    cases q : g d en S with
    | none => simp only [q] at hp; exact hp.elim
    | some p =>
      obtain ⟨e1, S1⟩ := p
      simp only [q] at hp
      exact fun W' H' σ' x s rr => h2.run W' H' σ' e1 S1 ds vr Q rr s (r2.ext x) (hp.later x)
def gtTup (n : Nat) (g : FGs) : FG := fun d en S => match d with
  | .tup ds => if ds.length = n then g ds en S else none
  | _ => none
theorem pfg_tup {es : List Expr} {k : Nat} {g : FGs} {n : Nat} (hc : X.calm = true) (h : PFGs X es g) (hn : (assignEach es X.env).length = n := by rfl) (hst : (assignEach es X.env).findIdx? (·.1) = none := by rfl) : PFG X (.Tuple es k pos) (gtTup n g) := by
  refine ⟨fun W H σ en S d v Q he hs' r hp => PG_w (pg_tup hc pgs_w hn hst) ?_⟩
  cases d with
  | tup ds =>
    unfold DRel at r
    obtain ⟨a, vs, rfl, r1, r2⟩ := r
    simp only [gtTup] at hp
    split at hp
    · rename_i hl
      exact ⟨a, vs, rfl, r1, by rw [← r2.length]; exact hl, h.run W H σ en S ds vs Q he hs' r2 hp⟩
    · exact hp.elim
  | _ => exact hp.elim
def flG (r : Option (En × So)) : Fl := match r with
  | some (e, S) => .nx e S
  | none => .no
theorem postG {K : PySem.W.Frag} {W : Wd} {H : Hp} {r : Option (En × So)} {Z : Ends} {Wx : WX} (h : PostS K W H (flG r) Z Wx) : PostG K W H r Z.nx := by
  cases r with
  | none => exact h
  | some p => obtain ⟨e, S⟩ := p; exact h
def fAsg (f : FE) (g : FG) : FS := fun en S => fthen en (f en S) fun d S1 => flG (g d en S1)
theorem pfs_asg {g : FG} (he : PFE X Wx e fe) (hg : PFG X tg g) (hs : swapsWithSole [tg] e pos.line X.env = pure false := by rfl) (hw : swappedStores [tg] e X.env = pure none := by rfl)
    (h1 : (assignEach [tg] X.env).map (·.2) = [assign tg X.env] := by rfl) : PFS X Wx (.Assign [tg] e pos) (fAsg fe g) :=
  ⟨fun W H σ en S Z he' hs' hp => PS_w (ps_asg pe_w pg_w hs hw h1) (he.run W H σ en S _ he' hs' (post_then he' hp fun d S1 W1 H1 x e1 s1 r1 p1 => hg.run W1 H1 σ en S1 d x _ (he'.ext e1) s1 r1 (postG p1)))⟩
theorem pfs_set {i : Nat} {x : Str} {pos' : Pos} (hN : X.N.Nodup) (hi : X.N[i]? = some x) (hx : Loc X.env.scope x) (he : PFE X Wx e fe) (hs : swapsWith e (some (.Name x pos')) pos.line X.env = pure false := by rfl) (hf : X.fn x = true ∨ X.env.scope.names.lookup x = some .local := by first | exact .inl rfl | exact .inr rfl | assumption) :
    PFS X Wx (.Assign [.Name x pos'] e pos) (fAsg fe (gtName i)) :=
  ⟨fun W H σ en S Z he' hs' hp => PS_w (ps_set (i := i) hN hi hx pe_w hs hf) (he.run W H σ en S _ he' hs' (post_then he' hp fun d S1 W1 H1 x e1 s1 r1 p1 => p1 W1 H1 _ Ext.refl s1 ((he'.ext e1).set r1)))⟩
/-- a, b = x, y -/
def fPar (i j : Nat) (fa : FA) : FS := fun en S => fthen en (fa en S) fun ds S1 => match ds with
  | [d1, d2] => .nx ((en.set i (some d1)).set j (some d2)) S1
  | _ => .no
theorem pfs_par {i j : Nat} {x y : Str} {a b : Expr} {fa : FA} {px py pt : Pos} {kt k2 pt2} (hc : X.calm = true) (hN : X.N.Nodup) (hi : X.N[i]? = some x) (hj : X.N[j]? = some y) (hij : i ≠ j)
    (hx : X.env.scope.names.lookup x = some .local) (hy : X.env.scope.names.lookup y = some .local) (ha : PFA X Wx [a, b] fa)
    (hw : swappedStores [.Tuple [.Name x px, .Name y py] kt pt] (.Tuple [a, b] k2 pt2) X.env = pure (some [x, y]))
    (hs : swapsWithSole [.Tuple [.Name x px, .Name y py] kt pt] (.Tuple [a, b] k2 pt2) pos.line X.env = pure false := by rfl) :
    PFS X Wx (.Assign [.Tuple [.Name x px, .Name y py] kt pt] (.Tuple [a, b] k2 pt2) pos) (fPar i j fa) := by
  refine ⟨fun W H σ en S Z he' hs' hp => PS_w (ps_par hc hN hi hj hij hx hy pa_w hw hs) (ha.run W H σ en S _ he' hs' (post_then he' hp fun ds S1 W1 H1 vs e1 s1 r1 p1 => ?_))⟩
  match ds, r1, p1 with
  | [d1, d2], r1, p1 =>
    unfold DRels at r1
    obtain ⟨v1, vr, rfl, q1, r2⟩ := r1
    unfold DRels at r2
    obtain ⟨v2, vr2, rfl, q2, r3⟩ := r2
    unfold DRels at r3
    subst r3
    exact ⟨v1, v2, rfl, p1 W1 H1 _ Ext.refl s1 (((he'.ext e1).set q1).set q2)⟩
  | [], _, p1 => exact p1.elim
  | [_], _, p1 => exact p1.elim
  | _ :: _ :: _ :: _, _, p1 => exact p1.elim
/-- x op= e -/
def fAug (i : Nat) (f : FE) (g : G2) : FS := fun en S => match en[i]? with
  | some (some x) => fthen en (f en S) fun y S1 => match g x y S1 with
    | some (d, S2) => .nx (en.set i (some d)) S2
    | none => .no
  | _ => .no
theorem pfs_aug {i : Nat} {x : Str} {op : Operator} {r : R2} {g : G2} {pos' : Pos} (hN : X.N.Nodup) (hi : X.N[i]? = some x) (hx : Loc X.env.scope x) (ho : OpR X (inplaceOp op) r) (hg : OpD X.K r g) (he : PFE X Wx e fe)
    (hf : X.fn x = true ∨ X.env.scope.names.lookup x = some .local := by first | exact .inl rfl | exact .inr rfl | assumption) : PFS X Wx (.AugAssign (.Name x pos') op e pos) (fAug i fe g) := by
  refine ⟨fun W H σ en S Z he' hs' hp => PS_w (ps_aug (i := i) (ti := r) hN hi hx pe_w ho hf) ?_⟩
  unfold fAug at hp
  split at hp
  · rename_i d hd
    obtain ⟨v, hv, rv⟩ := he'.2 i d hd
    refine ⟨v, hv, he.run W H σ en S _ he' hs' (post_then he' hp fun y S1 W1 H1 u e1 s1 r1 p1 => ?_)⟩
    refine hg W1 H1 S1 v u d y _ s1 (rv.ext e1) r1 ?_
    cases q : g d y S1 with
    | none => rw [q] at p1; exact p1.elim
    | some p =>
      obtain ⟨d2, S2⟩ := p
      rw [q] at p1
      exact fun W2 H2 z e2 s2 r2 => p1 W2 H2 _ e2 s2 (((he'.ext e1).ext e2).set r2)
  · exact hp.elim
/-! while -/
def fWhile (c : FT) (b : FS) : Nat → FS
  | 0 => fun _ _ => .no
  | n + 1 => fun en S => fthen en (c en S) fun k S1 => if k = true then (match b en S1 with
    | .nx e2 S2 => fWhile c b n e2 S2
    | .ct e2 S2 => fWhile c b n e2 S2
    | .bk e2 S2 => .nx e2 S2
    | .rt d S2 => .rt d S2
    | .ex C e2 S2 => .ex C e2 S2
    | .no => .no) else .nx en S1
theorem pfs_while {c : Expr} {body : List Stmt} (n : Nat) (hp : PassesOwn (model X.prog X.w) X.A X.env X.xe) (hc : PFT X Wx c gt) (hb : PFB X Wx body f) : PFS X Wx (.While c body [] pos) (fWhile gt f n) := by
  refine ⟨fun W H σ en S Z he hs h => PS_w (ps_while hp pt_w pss_w) ?_⟩
  refine ⟨fun m σ1 H1 => ∃ W1 en1 S1, ERel X.K W1 H1 en1 σ1 ∧ SRel X.K W1 H1 S1 ∧ PostS X.K W1 H1 (fWhile gt f m en1 S1) Z Wx, ⟨n, W, en, S, he, hs, h⟩, ?_⟩
  rintro m σ1 H1 ⟨W1, en1, S1, he1, hs1, h1⟩
  cases m with
  | zero => exact h1.elim
  | succ m =>
    refine hc.run W1 H1 σ1 en1 S1 _ he1 hs1 (post_then he1 h1 fun k S2 W2 H2 x e2 s2 r2 p2 => ?_)
    cases r2
    cases k with
    | false => exact iteF (p2 W2 H2 σ1 Ext.refl s2 (he1.ext e2))
    | true =>
      refine iteT ⟨fun σ' H' => ∃ W1 en1 S1, ERel X.K W1 H' en1 σ' ∧ SRel X.K W1 H' S1 ∧ PostS X.K W1 H' (fWhile gt f m en1 S1) Z Wx, fun σ' H' q => ⟨m, Nat.lt_succ_self m, q⟩, ?_⟩
      refine hb.run W2 H2 σ1 en1 S2 _ (he1.ext e2) s2 ?_
      simp only [if_true] at p2
      cases q : f en1 S2 with
      | nx a b => rw [q] at p2; exact fun W' H' σ' x s r => ⟨W', a, b, r, s, PostS.later p2 x⟩
      | ct a b => rw [q] at p2; exact fun W' H' σ' x s r => ⟨W', a, b, r, s, PostS.later p2 x⟩
      | bk a b => rw [q] at p2; exact p2
      | rt a b => rw [q] at p2; exact p2
      | ex a b c => rw [q] at p2; exact p2
      | no => rw [q] at p2; exact p2
/-! for -/
/-- over fixed items -/
def forL (g : FG) (b : FS) : List D → FS
  | [] => fun en S => .nx en S
  | d :: ds => fun en S => match g d en S with
    | none => .no
    | some (e1, S1) => match b e1 S1 with
      | .nx e2 S2 => forL g b ds e2 S2
      | .ct e2 S2 => forL g b ds e2 S2
      | .bk e2 S2 => .nx e2 S2
      | .rt d S2 => .rt d S2
      | .ex C e2 S2 => .ex C e2 S2
      | .no => .no
/-- over a list of the store, k turns left at most -/
def forR (g : FG) (b : FS) (n : Nat) : Nat → Nat → FS
  | 0, _ => fun _ _ => .no
  | k + 1, i => fun en S => match S[n]? with
    | some (.lst ds) => match ds[i]? with
      | none => .nx en S
      | some d => match g d en S with
        | none => .no
        | some (e1, S1) => match b e1 S1 with
          | .nx e2 S2 => forR g b n k (i + 1) e2 S2
          | .ct e2 S2 => forR g b n k (i + 1) e2 S2
          | .bk e2 S2 => .nx e2 S2
          | .rt d S2 => .rt d S2
          | .ex C e2 S2 => .ex C e2 S2
          | .no => .no
    | _ => .no
def fFor (m : Nat) (fi : FI) (g : FG) (b : FS) : FS := fun en S => fthen en (fi en S) fun t S1 => match t with
  | .items ds => forL g b ds en S1
  | .live n => forR g b n m 0 en S1
theorem pfs_for {iter : Expr} {body : List Stmt} {fi : FI} {g : FG} (m : Nat) (hp : PassesOwn (model X.prog X.w) X.A X.env X.xe) (hc : X.calm = true) (hi : PFI X Wx tg iter fi) (hg : PFG X tg g) (hb : PFB X Wx body f)
    (hs : ∀ x, foldedSetIterable iter X.env x = pure x := by intro _; rfl) : PFS X Wx (.For tg iter body [] pos) (fFor m fi g f) := by
  refine ⟨fun W H σ en S Z he hs' h => PS_w (ps_for hp hc pi_w pg_w pss_w hs) ?_⟩
  refine hi.run W H σ en S _ he hs' (post_then he h fun t S1 W1 H1 J e1 s1 r1 p1 => ?_)
  cases t with
  | items ds =>
    refine ⟨fun i k σ2 H2 => ∃ W2 en2 S2, k = ds.length - i ∧ i ≤ ds.length ∧ Ext X.K W1 H1 W2 H2 ∧ ERel X.K W2 H2 en2 σ2 ∧ SRel X.K W2 H2 S2 ∧ PostS X.K W2 H2 (forL g f (ds.drop i) en2 S2) Z Wx, ⟨_, W1, en, S1, rfl, Nat.zero_le _, Ext.refl, he.ext e1, s1, p1⟩, ?_⟩
    rintro i k σ2 H2 ⟨W2, en2, S2, hk, hi', x2, he2, hs2, h2⟩
    have hr := r1 W2 H2 S2 x2 hs2 i
    by_cases c : i < ds.length
    · rw [List.drop_eq_getElem_cons c] at h2
      have ed : ItD.at S2 i (.items ds) = some (some ds[i]) := by simp only [ItD.at, List.getElem?_eq_getElem c]
      rw [ed] at hr
      obtain ⟨hgo, hy⟩ := hr
      refine .inr ⟨hgo, fun σ' H' => ∃ W2 en2 S2, i + 1 ≤ ds.length ∧ Ext X.K W1 H1 W2 H' ∧ ERel X.K W2 H' en2 σ' ∧ SRel X.K W2 H' S2 ∧ PostS X.K W2 H' (forL g f (ds.drop (i + 1)) en2 S2) Z Wx, ?_, ?_⟩
      · rintro σ' H' ⟨W3, en3, S3, hl3, q3, q4, q5, q6⟩
        exact ⟨ds.length - (i + 1), by omega, W3, en3, S3, rfl, hl3, q3, q4, q5, q6⟩
      · intro x H3 hx
        obtain ⟨x3, s3, r3⟩ := hy x H3 hx
        refine hg.run W2 H3 σ2 en2 S2 _ x _ (he2.ext x3) s3 r3 ?_
        unfold forL at h2
        cases q : g ds[i] en2 S2 with
        | none => rw [q] at h2; exact h2.elim
        | some p =>
          obtain ⟨e4, S4⟩ := p
          rw [q] at h2
          intro W5 H5 σ5 x5 s5 r5
          refine hb.run W5 H5 σ5 e4 S4 _ r5 s5 ?_
          have h2 := PostS.later h2 (x3.trans x5)
          simp only at h2
          cases q2 : f e4 S4 with
          | nx a b => rw [q2] at h2; exact fun W' H' σ' y s r => ⟨W', a, b, c, ((x2.trans x3).trans x5).trans y, r, s, PostS.later h2 y⟩
          | ct a b => rw [q2] at h2; exact fun W' H' σ' y s r => ⟨W', a, b, c, ((x2.trans x3).trans x5).trans y, r, s, PostS.later h2 y⟩
          | bk a b => rw [q2] at h2; exact h2
          | rt a b => rw [q2] at h2; exact h2
          | ex a b c => rw [q2] at h2; exact h2
          | no => rw [q2] at h2; exact h2
    · have ei : i = ds.length := by omega
      subst ei
      have ed : ItD.at S2 ds.length (.items ds) = some none := by simp only [ItD.at, List.getElem?_eq_none (Nat.le_refl _)]
      rw [ed] at hr
      rw [List.drop_length] at h2
      exact .inl ⟨hr, h2 W2 H2 σ2 Ext.refl hs2 he2⟩
  | live n =>
    refine ⟨fun i k σ2 H2 => ∃ W2 en2 S2, Ext X.K W1 H1 W2 H2 ∧ ERel X.K W2 H2 en2 σ2 ∧ SRel X.K W2 H2 S2 ∧ PostS X.K W2 H2 (forR g f n k i en2 S2) Z Wx, ⟨m, W1, en, S1, Ext.refl, he.ext e1, s1, p1⟩, ?_⟩
    rintro i k σ2 H2 ⟨W2, en2, S2, x2, he2, hs2, h2⟩
    have hr := r1 W2 H2 S2 x2 hs2 i
    cases k with
    | zero => exact h2.elim
    | succ k =>
      unfold forR at h2
      split at h2
      · rename_i ds hn
        cases c : ds[i]? with
        | none =>
          have ed : ItD.at S2 i (.live n) = some none := by simp only [ItD.at, hn, c]
          rw [ed] at hr
          rw [c] at h2
          exact .inl ⟨hr, h2 W2 H2 σ2 Ext.refl hs2 he2⟩
        | some d =>
          have ed : ItD.at S2 i (.live n) = some (some d) := by simp only [ItD.at, hn, c]
          rw [ed] at hr
          rw [c] at h2
          obtain ⟨hgo, hy⟩ := hr
          refine .inr ⟨hgo, fun σ' H' => ∃ W2 en2 S2, Ext X.K W1 H1 W2 H' ∧ ERel X.K W2 H' en2 σ' ∧ SRel X.K W2 H' S2 ∧ PostS X.K W2 H' (forR g f n k (i + 1) en2 S2) Z Wx, fun σ' H' q => ⟨k, Nat.lt_succ_self k, q⟩, ?_⟩
          intro x H3 hx
          obtain ⟨x3, s3, r3⟩ := hy x H3 hx
          refine hg.run W2 H3 σ2 en2 S2 _ x _ (he2.ext x3) s3 r3 ?_
          cases q : g d en2 S2 with
          | none => simp only [q] at h2; exact h2.elim
          | some p =>
            obtain ⟨e4, S4⟩ := p
            simp only [q] at h2
            intro W5 H5 σ5 x5 s5 r5
            refine hb.run W5 H5 σ5 e4 S4 _ r5 s5 ?_
            have h2 := PostS.later h2 (x3.trans x5)
            cases q2 : f e4 S4 with
            | nx a b => rw [q2] at h2; exact fun W' H' σ' y s r => ⟨W', a, b, ((x2.trans x3).trans x5).trans y, r, s, PostS.later h2 y⟩
            | ct a b => rw [q2] at h2; exact fun W' H' σ' y s r => ⟨W', a, b, ((x2.trans x3).trans x5).trans y, r, s, PostS.later h2 y⟩
            | bk a b => rw [q2] at h2; exact h2
            | rt a b => rw [q2] at h2; exact h2
            | ex a b c => rw [q2] at h2; exact h2
            | no => rw [q2] at h2; exact h2
      · exact h2.elim
end stmts
end PF

namespace PF
open PySem L2
variable [Tab]
/-! ### data read as rows -/
def lsOf (S : So) : D → Option (List D)
  | .lst ds => some ds
  | .ref n => match S[n]? with
    | some (.lst ds) => some ds
    | _ => none
  | _ => none
/-- a list or a tuple -/
def sqOf (S : So) : D → Option (List D)
  | .tup ds => some ds
  | d => lsOf S d
def intOf : D → Option Int
  | .int i => some i
  | _ => none
def intsOf : List D → Option (List Int)
  | [] => some []
  | d :: ds => match intOf d, intsOf ds with
    | some i, some r => some (i :: r)
    | _, _ => none
theorem intsOf_eq : ∀ {ds : List D} {ns : List Int}, intsOf ds = some ns → ds = ns.map D.int
  | [], ns, h => by simp only [intsOf] at h; cases h; rfl
  | d :: ds, ns, h => by
    simp only [intsOf] at h
    split at h
    · rename_i i r h1 h2
      cases h
      cases d <;> simp only [intOf] at h1 <;> cases h1
      rw [intsOf_eq h2, List.map_cons]
    · cases h
theorem intsOf_map : ∀ (ns : List Int), intsOf (ns.map D.int) = some ns
  | [] => rfl
  | n :: ns => by simp only [List.map_cons, intsOf, intOf, intsOf_map ns]
section rows
variable {K : PySem.W.Frag} {W : Wd} {H : Hp} {S : So} {d : D} {v : V} {ds : List D}
theorem lsOf_rel (s : SRel K W H S) (r : DRel K W H d v) (h : lsOf S d = some ds) : ∃ a vs, v = .ref a ∧ H a = some (.lst vs) ∧ DRels K W H ds vs := by
  cases d with
  | lst es =>
    simp only [lsOf] at h; cases h
    unfold DRel at r; obtain ⟨a, vs, rfl, h1, h2⟩ := r
    exact ⟨a, vs, rfl, h1.2, h2⟩
  | ref n =>
    simp only [lsOf] at h
    unfold DRel at r; obtain ⟨a, rfl, h1⟩ := r
    split at h
    · rename_i es hn
      cases h
      obtain ⟨vs, h2, h3⟩ := s.obj n a _ h1 hn
      exact ⟨a, vs, rfl, h2, h3⟩
    · cases h
  | _ => simp only [lsOf] at h; cases h
theorem sqOf_rel (s : SRel K W H S) (r : DRel K W H d v) (h : sqOf S d = some ds) : ∃ a vs, v = .ref a ∧ (SqL K H a vs ∨ SqT K H a vs) ∧ DRels K W H ds vs := by
  cases d with
  | tup es =>
    simp only [sqOf] at h; cases h
    unfold DRel at r; obtain ⟨a, vs, rfl, h1, h2⟩ := r
    exact ⟨a, vs, rfl, .inr h1, h2⟩
  | lst es =>
    obtain ⟨a, vs, e, h1, h2⟩ := lsOf_rel s r (show lsOf S (.lst es) = some ds from h)
    exact ⟨a, vs, e, .inl (.of h1), h2⟩
  | ref n =>
    obtain ⟨a, vs, e, h1, h2⟩ := lsOf_rel s r (show lsOf S (.ref n) = some ds from h)
    exact ⟨a, vs, e, .inl (.of h1), h2⟩
  | _ => simp only [sqOf, lsOf] at h; cases h
end rows
/-! ### operators on data -/
def gI (g : Int → Int → Int) : G2 := fun a b S => match a, b with
  | .int i, .int j => some (.int (g i j), S)
  | _, _ => none
def gIc (c : Int → Int → Bool) (g : Int → Int → Int) : G2 := fun a b S => match a, b with
  | .int i, .int j => if c i j = true then some (.int (g i j), S) else none
  | _, _ => none
def gB (g : Int → Int → Bool) : G2 := fun a b S => match a, b with
  | .int i, .int j => some (.bl (g i j), S)
  | _, _ => none
section opd
variable {K : PySem.W.Frag}
theorem PostO.here {W : Wd} {H : Hp} {d : D} {S : So} {Q : VK} {v : V} (p : PostO K W H (some (d, S)) Q) (s : SRel K W H S) (r : DRel K W H d v) : Q v H := p W H v Ext.refl s r
theorem opd_I {g : Int → Int → Int} : OpD K (rI0 fun i j => .int (g i j)) (gI g) := by
  intro W H S x y a b Q s ra rb p
  cases a <;> cases b <;> first | exact p.elim | skip
  unfold DRel at ra rb
  exact ⟨_, _, ra, rb, p.here s (by unfold DRel; rfl)⟩
theorem opd_Ic {C : Int → Int → Prop} {c : Int → Int → Bool} {g : Int → Int → Int} (h : ∀ i j, c i j = true → C i j) : OpD K (rI C fun i j => .int (g i j)) (gIc c g) := by
  intro W H S x y a b Q s ra rb p
  cases a <;> cases b <;> first | exact p.elim | skip
  unfold DRel at ra rb
  simp only [gIc] at p
  split at p
  · exact ⟨_, _, ra, rb, h _ _ (by assumption), p.here s (by unfold DRel; rfl)⟩
  · exact p.elim
theorem opd_B {g : Int → Int → Bool} : OpD K (rI0 fun i j => .bl (g i j)) (gB g) := by
  intro W H S x y a b Q s ra rb p
  cases a <;> cases b <;> first | exact p.elim | skip
  unfold DRel at ra rb
  exact ⟨_, _, ra, rb, p.here s (by unfold DRel; rfl)⟩
def gMinus : G2 := gI fun i j => i - j
def cMul (i j : Int) : Bool := (decide (-(2 ^ 64) < i) && decide (i < 2 ^ 64)) || (decide (-(2 ^ 64) < j) && decide (j < 2 ^ 64))
def gFdiv : G2 := gIc (fun _ j => decide (0 < j) && decide (j < 1073741824)) fun i j => i / j
def gMod : G2 := gIc (fun _ j => decide (0 < j)) fun i j => i % j
def gPow : G2 := gIc (fun i j => decide (0 ≤ j) && decide (j ≤ 1000000) && decide (i.natAbs < 2 ^ 64)) fun i j => i ^ j.toNat
theorem opd_sub : OpD K (rI0 fun i j => .int (i - j)) gMinus := opd_I
theorem opd_fdiv : OpD K (rI CDiv fun i j => .int (i / j)) gFdiv := opd_Ic fun i j h => by
  simp only [Bool.and_eq_true, decide_eq_true_eq] at h; exact h
theorem opd_mod : OpD K (rI (fun _ j => 0 < j) fun i j => .int (i % j)) gMod := opd_Ic fun i j h => by
  simp only [decide_eq_true_eq] at h; exact h
theorem opd_pow : OpD K (rI CPow fun i j => .int (i ^ j.toNat)) gPow := opd_Ic fun i j h => by
  simp only [Bool.and_eq_true, decide_eq_true_eq] at h; exact ⟨h.1.1, h.1.2, h.2⟩
theorem cMul_ok {i j : Int} (h : cMul i j = true) : CMul i j := by
  simp only [cMul, Bool.or_eq_true, Bool.and_eq_true, decide_eq_true_eq] at h; exact h
/-- x + y -/
def gAdd (mu : Bool) : G2 := fun a b S => match a, b with
  | .int i, .int j => some (.int (i + j), S)
  | .str x, .str y => if x.length + y.length ≤ sizeLine then some (.str (x ++ y), S) else none
  | .tup xs, .tup ys => if xs.length + ys.length ≤ sizeLine then some (.tup (xs ++ ys), S) else none
  | a, b => match lsOf S a, lsOf S b with
    | some xs, some ys => if xs.length + ys.length ≤ sizeLine then some (newL mu (xs ++ ys) S) else none
    | _, _ => none
def rAddS : R2 := fun x y H Q => ∃ i j, x = .str i ∧ y = .str j ∧ i.length + j.length ≤ sizeLine ∧ Q (.str (i ++ j)) H
def rAddA (K : PySem.W.Frag) : R2 := fun x y H Q => rI0 (fun i j => .int (i + j)) x y H Q ∨ rAddS x y H Q ∨ rCatA K x y H Q ∨ rCat x y H Q
theorem op_addA {X : Cx} : OpR X (binaryOp .Add) (rAddA X.K) := op_add.or (op_add_str.or (op_catA.or op_cat))
theorem drel_same {W : Wd} {H : Hp} {a : Addr} {vs : List V} {ds : List D} (h : SqT K H a vs) (r : DRels K W H ds vs) : DRel K W H (.tup ds) (.ref a) := by
  unfold DRel; exact ⟨a, vs, rfl, h, r⟩
theorem cat_new {W : Wd} {H : Hp} {S : So} {x y : V} {a b : D} {xs ys : List D} {Q : VK} (mu : Bool) (s : SRel K W H S) (ra : DRel K W H a x) (rb : DRel K W H b y) (ha : lsOf S a = some xs) (hb : lsOf S b = some ys)
    (p : PostO K W H (if xs.length + ys.length ≤ sizeLine then some (newL mu (xs ++ ys) S) else none) Q) : rCat x y H Q := by
  obtain ⟨p1, vs, e1, h1, r1⟩ := lsOf_rel s ra ha
  obtain ⟨p2, us, e2, h2, r2⟩ := lsOf_rel s rb hb
  split at p
  · rename_i hl
    exact ⟨p1, p2, vs, us, e1, e2, h1, h2, by rw [← r1.length, ← r2.length]; exact hl, fun q hq => new_list mu s (r1.append r2) p hq⟩
  · exact p.elim
theorem opd_add (mu : Bool) : OpD K (rAddA K) (gAdd mu) := by
  intro W H S x y a b Q s ra rb p
  have fin : ∀ (a b : D), DRel K W H a x → DRel K W H b y → PostO K W H (match lsOf S a, lsOf S b with
    | some xs, some ys => if xs.length + ys.length ≤ sizeLine then some (newL mu (xs ++ ys) S) else none
    | _, _ => none) Q → rCat x y H Q := fun a b ra rb p => by
    split at p
    · exact cat_new mu s ra rb (by assumption) (by assumption) p
    · exact p.elim
  unfold gAdd at p
  split at p
  · unfold DRel at ra rb; exact .inl ⟨_, _, ra, rb, p.here s (by unfold DRel; rfl)⟩
  · unfold DRel at ra rb
    split at p
    · exact .inr (.inl ⟨_, _, ra, rb, by assumption, p.here s (by unfold DRel; rfl)⟩)
    · exact p.elim
  · rename_i xs ys
    have ra' := ra; have rb' := rb
    unfold DRel at ra rb
    obtain ⟨p1, vs, e1, h1, r1⟩ := ra
    obtain ⟨p2, us, e2, h2, r2⟩ := rb
    split at p
    · rename_i hl
      refine .inr (.inr (.inl ⟨p1, p2, vs, us, e1, e2, h1, h2, by rw [← r1.length, ← r2.length]; exact hl, ?_⟩))
      refine ⟨fun ex => ?_, fun _ ey => ?_, fun _ _ q hq => new_tup s (r1.append r2) p hq⟩
      · have : xs = [] := by cases xs with
          | nil => rfl
          | cons _ _ => have := r1.length; rw [ex] at this; simp at this
        subst this
        exact p.here s (drel_same h2 r2)
      · have : ys = [] := by cases ys with
          | nil => rfl
          | cons _ _ => have := r2.length; rw [ey] at this; simp at this
        subst this
        rw [List.append_nil] at p
        exact p.here s (drel_same h1 r1)
    · exact p.elim
  · exact .inr (.inr (.inr (fin _ _ ra rb p)))
/-- x * y -/
def gMul (mu : Bool) : G2 := fun a b S => match a, b with
  | .int i, .int j => if cMul i j = true then some (.int (i * j), S) else none
  | a, .int k => match lsOf S a with
    | some xs => if -(2 ^ 63) ≤ k ∧ k < 2 ^ 63 ∧ xs.length * k.toNat ≤ sizeLine then some (newL mu (List.replicate k.toNat xs).flatten S) else none
    | none => none
  | _, _ => none
def rMulA : R2 := fun x y H Q => rI CMul (fun i j => .int (i * j)) x y H Q ∨ rRep x y H Q
theorem op_mulA {X : Cx} : OpR X (binaryOp .Mult) rMulA := op_mul.or op_rep
theorem opd_mul (mu : Bool) : OpD K rMulA (gMul mu) := by
  intro W H S x y a b Q s ra rb p
  unfold gMul at p
  split at p
  · unfold DRel at ra rb
    split at p
    · exact .inl ⟨_, _, ra, rb, cMul_ok (by assumption), p.here s (by unfold DRel; rfl)⟩
    · exact p.elim
  · unfold DRel at rb
    split at p
    · rename_i xs hx
      obtain ⟨p1, vs, e1, h1, r1⟩ := lsOf_rel s ra hx
      split at p
      · rename_i hc
        exact .inr ⟨p1, _, vs, e1, rb, h1, hc.1, hc.2.1, by rw [← r1.length]; exact hc.2.2, fun q hq => new_list mu s (r1.rep _) p hq⟩
      · exact p.elim
    · exact p.elim
  · exact p.elim
/-! comparisons -/
def gLe : G2 := gB fun i j => decide (i ≤ j)
def gGe : G2 := gB fun i j => decide (j ≤ i)
/-- < of ints, texts, tuples of ints -/
def gLt : G2 := fun a b S => match a, b with
  | .int i, .int j => some (.bl (decide (i < j)), S)
  | .str x, .str y => some (.bl (decide (x.cps.toList < y.cps.toList)), S)
  | .tup xs, .tup ys => match intsOf xs, intsOf ys with
    | some ns, some ms => some (.bl (HT.lexLt ns ms), S)
    | _, _ => none
  | _, _ => none
def rLtS : R2 := fun x y H Q => ∃ i j, x = .str i ∧ y = .str j ∧ Q (.bl (decide (i.cps.toList < j.cps.toList))) H
def rLtA (K : PySem.W.Frag) : R2 := fun x y H Q => rI0 (fun i j => .bl (decide (i < j))) x y H Q ∨ rLtS x y H Q ∨ rLtT K x y H Q
theorem op_ltA {X : Cx} (hu : X.A.units < cLine) : OpR X (compareOp .Lt) (rLtA X.K) := op_lt.or (op_lt_str.or (op_ltT hu))
theorem tup_ints {W : Wd} {H : Hp} {x : V} {xs : List D} {ns : List Int} (r : DRel K W H (.tup xs) x) (h : intsOf xs = some ns) : ∃ a, x = .ref a ∧ SqT K H a (ns.map V.int) := by
  unfold DRel at r
  obtain ⟨a, vs, e, h1, h2⟩ := r
  rw [intsOf_eq h] at h2
  rw [DRels.ints_of h2] at h1
  exact ⟨a, e, h1⟩
theorem opd_lt : OpD K (rLtA K) gLt := by
  intro W H S x y a b Q s ra rb p
  unfold gLt at p
  split at p
  · unfold DRel at ra rb; exact .inl ⟨_, _, ra, rb, p.here s (by unfold DRel; rfl)⟩
  · unfold DRel at ra rb; exact .inr (.inl ⟨_, _, ra, rb, p.here s (by unfold DRel; rfl)⟩)
  · split at p
    · rename_i h1 h2
      obtain ⟨p1, e1, t1⟩ := tup_ints ra h1
      obtain ⟨p2, e2, t2⟩ := tup_ints rb h2
      exact .inr (.inr ⟨p1, p2, _, _, e1, e2, t1, t2, p.here s (by unfold DRel; rfl)⟩)
    · exact p.elim
  · exact p.elim
theorem opd_le : OpD K (rI0 fun i j => .bl (decide (i ≤ j))) gLe := opd_B
theorem opd_ge : OpD K (rI0 fun i j => .bl (decide (j ≤ i))) gGe := opd_B
def gGt : G2 := gB fun i j => decide (j < i)
theorem opd_gt : OpD K (rI0 fun i j => .bl (decide (j < i))) gGt := opd_B
/-! is None -/
def isNon : D → Bool
  | .non => true
  | _ => false
theorem isNon_rel {W : Wd} {H : Hp} {d : D} {v : V} (r : DRel K W H d v) : decide (v = .non) = isNon d := by
  cases d with
  | non => unfold DRel at r; subst r; rfl
  | bl b => unfold DRel at r; subst r; rfl
  | int b => unfold DRel at r; subst r; rfl
  | str b => unfold DRel at r; subst r; rfl
  | tup ds => unfold DRel at r; obtain ⟨a, vs, rfl, _⟩ := r; rfl
  | lst ds => unfold DRel at r; obtain ⟨a, vs, rfl, _⟩ := r; rfl
  | ref n => unfold DRel at r; obtain ⟨a, rfl, _⟩ := r; rfl
  | scr n => unfold DRel at r; obtain ⟨a, rfl, _⟩ := r; rfl
def gIs : G2 := fun a b S => match b with
  | .non => some (.bl (isNon a), S)
  | _ => none
def gIsNot : G2 := fun a b S => match b with
  | .non => some (.bl (!isNon a), S)
  | _ => none
theorem opd_is : OpD K (fun x y H Q => y = .non ∧ Q (.bl (decide (x = .non))) H) gIs := by
  intro W H S x y a b Q s ra rb p
  cases b <;> first | exact p.elim | skip
  unfold DRel at rb
  exact ⟨rb, by rw [isNon_rel ra]; exact p.here s (by unfold DRel; rfl)⟩
theorem opd_isnot : OpD K (fun x y H Q => y = .non ∧ Q (.bl (!decide (x = .non))) H) gIsNot := by
  intro W H S x y a b Q s ra rb p
  cases b <;> first | exact p.elim | skip
  unfold DRel at rb
  exact ⟨rb, by rw [isNon_rel ra]; exact p.here s (by unfold DRel; rfl)⟩
/-! == at any depth -/
mutual
def pd0 : D → Option PyData
  | .non => some .none
  | .bl b => some (.bool b)
  | .int i => some (.int i)
  | .str x => some (.str x)
  | .tup ds => match pds ds with
    | some r => some (.tuple r)
    | none => none
  | .lst ds => match pds ds with
    | some r => some (.list r)
    | none => none
  | .ref _ => none
  | .scr _ => none
def pds : List D → Option (List PyData)
  | [] => some []
  | d :: ds => match pd0 d, pds ds with
    | some x, some r => some (x :: r)
    | _, _ => none
end
def pdOf (S : So) : D → Option PyData
  | .ref n => match S[n]? with
    | some (.lst ds) => match pds ds with
      | some r => some (.list r)
      | none => none
    | _ => none
  | d => pd0 d
mutual
theorem pd0_rel {W : Wd} {H : Hp} : ∀ {d : D} {v : V} {x : PyData}, DRel K W H d v → pd0 d = some x → Dp K H v x
  | .non, v, x, r, h => by unfold DRel at r; subst r; simp only [pd0] at h; cases h; exact .non
  | .bl b, v, x, r, h => by unfold DRel at r; subst r; simp only [pd0] at h; cases h; exact .bl b
  | .int b, v, x, r, h => by unfold DRel at r; subst r; simp only [pd0] at h; cases h; exact .int b
  | .str b, v, x, r, h => by unfold DRel at r; subst r; simp only [pd0] at h; cases h; exact .str b
  | .tup ds, v, x, r, h => by
    unfold DRel at r; obtain ⟨a, vs, rfl, h1, h2⟩ := r
    simp only [pd0] at h
    split at h
    · cases h; exact .tup h1 (pds_rel h2 (by assumption))
    · cases h
  | .lst ds, v, x, r, h => by
    unfold DRel at r; obtain ⟨a, vs, rfl, h1, h2⟩ := r
    simp only [pd0] at h
    split at h
    · cases h; exact .lst h1.sq (pds_rel h2 (by assumption))
    · cases h
  | .ref n, v, x, r, h => by simp only [pd0] at h; cases h
  | .scr n, v, x, r, h => by simp only [pd0] at h; cases h
theorem pds_rel {W : Wd} {H : Hp} : ∀ {ds : List D} {vs : List V} {xs : List PyData}, DRels K W H ds vs → pds ds = some xs → DpAll K H vs xs
  | [], vs, xs, r, h => by unfold DRels at r; subst r; simp only [pds] at h; cases h; exact .nil
  | d :: ds, vs, xs, r, h => by
    unfold DRels at r; obtain ⟨v, vr, rfl, h1, h2⟩ := r
    simp only [pds] at h
    split at h
    · cases h; exact .cons (pd0_rel h1 (by assumption)) (pds_rel h2 (by assumption))
    · cases h
end
theorem pdOf_rel {W : Wd} {H : Hp} {S : So} {d : D} {v : V} {x : PyData} (s : SRel K W H S) (r : DRel K W H d v) (h : pdOf S d = some x) : Dp K H v x := by
  unfold pdOf at h
  split at h
  · rename_i n
    unfold DRel at r; obtain ⟨a, rfl, h1⟩ := r
    split at h
    · rename_i es hn
      obtain ⟨vs, h2, h3⟩ := s.obj n a _ h1 hn
      split at h
      · cases h; exact .lst (.of h2) (pds_rel h3 (by assumption))
      · cases h
    · cases h
  · exact pd0_rel r h
def eqD (S : So) (a b : D) : Option Bool := match pdOf S a, pdOf S b with
  | some x, some y => if SeqAt.shaped x = true ∧ SeqAt.shaped y = true then some (PyData.eqv x y) else none
  | _, _ => none
def gEq : G2 := fun a b S => match eqD S a b with
  | some k => some (.bl k, S)
  | none => none
def gNe : G2 := fun a b S => match eqD S a b with
  | some k => some (.bl (!k), S)
  | none => none
theorem eqD_rel {W : Wd} {H : Hp} {S : So} {a b : D} {x y : V} {k : Bool} (s : SRel K W H S) (ra : DRel K W H a x) (rb : DRel K W H b y) (h : eqD S a b = some k) :
    ∃ d e, Dp K H x d ∧ Dp K H y e ∧ SeqAt.shaped d = true ∧ SeqAt.shaped e = true ∧ PyData.eqv d e = k := by
  unfold eqD at h
  split at h
  · rename_i d e h1 h2
    split at h
    · rename_i hc
      cases h
      exact ⟨d, e, pdOf_rel s ra h1, pdOf_rel s rb h2, hc.1, hc.2, rfl⟩
    · cases h
  · cases h
theorem opd_eq : OpD K (rEqD K) gEq := by
  intro W H S x y a b Q s ra rb p
  unfold gEq at p
  split at p
  · rename_i k hk
    obtain ⟨d, e, h1, h2, h3, h4, h5⟩ := eqD_rel s ra rb hk
    exact ⟨d, e, h1, h2, h3, h4, by rw [h5]; exact p.here s (by unfold DRel; rfl)⟩
  · exact p.elim
theorem opd_ne : OpD K (rNeD K) gNe := by
  intro W H S x y a b Q s ra rb p
  unfold gNe at p
  split at p
  · rename_i k hk
    obtain ⟨d, e, h1, h2, h3, h4, h5⟩ := eqD_rel s ra rb hk
    exact ⟨d, e, h1, h2, h3, h4, by rw [h5]; exact p.here s (by unfold DRel; rfl)⟩
  · exact p.elim
end opd
end PF

namespace PF
open PySem L2
variable [Tab]
/-! ### calls of built-ins -/
abbrev GA := List D → So → Option (D × So)
def CallD (K : PySem.W.Frag) (r : List V → Hp → VK → Prop) (g : GA) : Prop := ∀ (W : Wd) (H : Hp) (S : So) (vs : List V) (ds : List D) (Q : VK), SRel K W H S → DRels K W H ds vs → PostO K W H (g ds S) Q → r vs H Q
def fCB (g : GA) (fa : FA) : FE := fun en S => (fa en S).bind fun ds S1 => ofO (g ds S1)
section calls
variable {X : Cx} {Wx : WX} {x : Str} {p pos : Pos} {e : Expr} {es : List Expr} {fa : FA} {id T : String} {r : List V → Hp → VK → Prop} {g : GA}
theorem pf_callB (hc : CallR X (.builtin id) r) (hd : CallD X.K r g) (hg : Gl X x) (hm : X.mg x = none) (ha : PFA X Wx (e :: es) fa) (hv : bootBuiltins x = some (.builtin id) := by decide +kernel) (hn : x ≠ "__name__" := by decide)
    (hdb : (x == ("__debug__" : Str)) = false := by decide) (he : starEach (e :: es) X.env = (false, eval e X.env) :: starEach es X.env := by rfl) (hpl : (backTo pos (starEach es X.env)).any (·.1) = false := by rfl) :
    PFE X Wx (.Call (.Name x p) (e :: es) [] pos) (fCB g fa) :=
  ⟨fun W H σ en S Q he' hs hp => PE_w (pe_callB hc hg hm hv pa_w (hn := hn) (hdb := hdb) (he := he) (hpl := hpl)) (ha.run W H σ en S _ he' hs (Post.bind hp fun ds S1 W1 H1 vs e1 s1 r1 p1 => hd W1 H1 S1 vs ds Q s1 r1 (postO p1)))⟩
theorem pf_callTy (hc : CallR X (.type T) r) (hd : CallD X.K r g) (hg : Gl X x) (hm : X.mg x = none) (ha : PFA X Wx (e :: es) fa) (hv : bootBuiltins x = some (.type T) := by decide +kernel) (hn : x ≠ "__name__" := by decide)
    (hdb : (x == ("__debug__" : Str)) = false := by decide) (he : starEach (e :: es) X.env = (false, eval e X.env) :: starEach es X.env := by rfl) (hpl : (backTo pos (starEach es X.env)).any (·.1) = false := by rfl) :
    PFE X Wx (.Call (.Name x p) (e :: es) [] pos) (fCB g fa) :=
  ⟨fun W H σ en S Q he' hs hp => PE_w (pe_callTy hc hg hm hv pa_w (hn := hn) (hdb := hdb) (he := he) (hpl := hpl)) (ha.run W H σ en S _ he' hs (Post.bind hp fun ds S1 W1 H1 vs e1 s1 r1 p1 => hd W1 H1 S1 vs ds Q s1 r1 (postO p1)))⟩
end calls
section one
variable {K : PySem.W.Frag}
theorem drels1 {W : Wd} {H : Hp} {d : D} {vs : List V} (h : DRels K W H [d] vs) : ∃ v, vs = [v] ∧ DRel K W H d v := by
  unfold DRels at h
  obtain ⟨v, r, rfl, h1, h2⟩ := h
  unfold DRels at h2
  subst h2
  exact ⟨v, rfl, h1⟩
theorem drels2 {W : Wd} {H : Hp} {d e : D} {vs : List V} (h : DRels K W H [d, e] vs) : ∃ v u, vs = [v, u] ∧ DRel K W H d v ∧ DRel K W H e u := by
  unfold DRels at h
  obtain ⟨v, r, rfl, h1, h2⟩ := h
  obtain ⟨u, rfl, h3⟩ := drels1 h2
  exact ⟨v, u, rfl, h1, h3⟩
theorem dint {W : Wd} {H : Hp} {i : Int} : DRel K W H (.int i) (.int i) := by unfold DRel; rfl
theorem dbl {W : Wd} {H : Hp} {i : Bool} : DRel K W H (.bl i) (.bl i) := by unfold DRel; rfl
theorem dstr {W : Wd} {H : Hp} {i : Str} : DRel K W H (.str i) (.str i) := by unfold DRel; rfl
theorem dnon {W : Wd} {H : Hp} : DRel K W H .non .non := by unfold DRel; rfl
/-- len -/
def gLen : GA := fun ds S => match ds with
  | [.str z] => if z.length ≤ sizeLine then some (.int z.length, S) else none
  | [.ref n] => match S[n]? with
    | some (.lst xs) => some (.int xs.length, S)
    | some (.dic kvs) => some (.int kvs.length, S)
    | _ => none
  | [.tup xs] => some (.int xs.length, S)
  | [.lst xs] => some (.int xs.length, S)
  | _ => none
theorem krel_len {W : Wd} {H : Hp} : ∀ {ds : List (Key × D)} {vs : List (Key × V)}, KRel K W H ds vs → ds.length = vs.length
  | [], vs, h => by unfold KRel at h; subst h; rfl
  | (k, d) :: ds, vs, h => by unfold KRel at h; obtain ⟨v, r, rfl, _, h3⟩ := h; simp [krel_len h3]
def rLenA (K : PySem.W.Frag) : List V → Hp → VK → Prop := fun xs H Q => (∃ p ys, xs = [.ref p] ∧ (SqL K H p ys ∨ SqT K H p ys) ∧ Q (.int ys.length) H) ∨ (∃ z, xs = [.str z] ∧ z.length ≤ sizeLine ∧ Q (.int z.length) H) ∨ (∃ a kvs, xs = [V.ref a] ∧ H a = some (.dK kvs) ∧ Q (.int kvs.length) H)
theorem call_lenA {X : Cx} : CallR X (.builtin "len") (rLenA X.K) := call_len_seq.or (call_len_str.or call_lenD)
theorem cd_len : CallD K (rLenA K) gLen := by
  intro W H S vs ds Q s r p
  unfold gLen at p
  split at p
  · obtain ⟨v, rfl, h1⟩ := drels1 r
    unfold DRel at h1; subst h1
    split at p
    · exact .inr (.inl ⟨_, rfl, by assumption, p.here s dint⟩)
    · exact p.elim
  · obtain ⟨v, rfl, h1⟩ := drels1 r
    unfold DRel at h1; obtain ⟨a, rfl, h1⟩ := h1
    split at p
    · rename_i hn
      obtain ⟨us, h2, h3⟩ := s.obj _ a _ h1 hn
      exact .inl ⟨a, us, rfl, .inl (.of h2), by rw [← h3.length]; exact p.here s dint⟩
    · rename_i hn
      obtain ⟨us, h2, h3⟩ := s.obj _ a _ h1 hn
      exact .inr (.inr ⟨a, us, rfl, h2, by rw [← krel_len h3]; exact p.here s dint⟩)
    · exact p.elim
  · obtain ⟨v, rfl, h1⟩ := drels1 r
    unfold DRel at h1; obtain ⟨a, us, rfl, h1, h2⟩ := h1
    exact .inl ⟨a, us, rfl, .inr h1, by rw [← h2.length]; exact p.here s dint⟩
  · obtain ⟨v, rfl, h1⟩ := drels1 r
    unfold DRel at h1; obtain ⟨a, us, rfl, h1, h2⟩ := h1
    exact .inl ⟨a, us, rfl, .inl h1.sq, by rw [← h2.length]; exact p.here s dint⟩
  · exact p.elim
/-- abs, int -/
def gAbs : GA := fun ds S => match ds with
  | [.int i] => some (.int (if i < 0 then -i else i), S)
  | _ => none
theorem cd_abs : CallD K (fun xs H Q => ∃ i, xs = [.int i] ∧ Q (.int (if i < 0 then -i else i)) H) gAbs := by
  intro W H S vs ds Q s r p
  unfold gAbs at p
  split at p
  · obtain ⟨v, rfl, h1⟩ := drels1 r
    unfold DRel at h1; subst h1
    exact ⟨_, rfl, p.here s dint⟩
  · exact p.elim
def gInt : GA := fun ds S => match ds with
  | [.int i] => some (.int i, S)
  | [.bl k] => some (.int (if k then 1 else 0), S)
  | _ => none
theorem cd_int : CallD K (fun xs H Q => (∃ i, xs = [.int i] ∧ Q (.int i) H) ∨ ∃ k, xs = [.bl k] ∧ Q (.int (if k then 1 else 0)) H) gInt := by
  intro W H S vs ds Q s r p
  unfold gInt at p
  split at p
  · obtain ⟨v, rfl, h1⟩ := drels1 r
    unfold DRel at h1; subst h1
    exact .inl ⟨_, rfl, p.here s dint⟩
  · obtain ⟨v, rfl, h1⟩ := drels1 r
    unfold DRel at h1; subst h1
    exact .inr ⟨_, rfl, p.here s dint⟩
  · exact p.elim
/-- str(int) -/
def gStr : GA := fun ds S => match ds with
  | [.int i] => if i.natAbs.log2 < 1920 then some (.str (toString i), S) else none
  | _ => none
theorem cd_str : CallD K (fun xs H Q => ∃ i, xs = [.int i] ∧ i.natAbs.log2 < 1920 ∧ Q (.str (toString i)) H) gStr := by
  intro W H S vs ds Q s r p
  unfold gStr at p
  split at p
  · obtain ⟨v, rfl, h1⟩ := drels1 r
    unfold DRel at h1; subst h1
    split at p
    · exact ⟨_, rfl, by assumption, p.here s dstr⟩
    · exact p.elim
  · exact p.elim
/-- the least, the greatest one -/
def least1 : List Int → Int → Int
  | [], m => m
  | x :: xs, m => least1 xs (if x < m then x else m)
def most1 : List Int → Int → Int
  | [], m => m
  | x :: xs, m => most1 xs (if x > m then x else m)
def leastI : List Int → Int
  | [] => 0
  | x :: xs => least1 xs x
def mostI : List Int → Int
  | [] => 0
  | x :: xs => most1 xs x
theorem least1_spec : ∀ (xs : List Int) (m : Int), (least1 xs m = m ∨ least1 xs m ∈ xs) ∧ least1 xs m ≤ m ∧ ∀ y ∈ xs, least1 xs m ≤ y
  | [], m => ⟨.inl rfl, Int.le_refl _, by simp⟩
  | x :: xs, m => by
    obtain ⟨h1, h2, h3⟩ := least1_spec xs (if x < m then x else m)
    unfold least1
    refine ⟨?_, ?_, ?_⟩
    · rcases h1 with h1 | h1
      · split at h1
        · right; rw [if_pos (by assumption), h1]; simp
        · left; rw [if_neg (by assumption), h1]
      · right; exact List.mem_cons_of_mem _ h1
    · split at h2 <;> split <;> omega
    · intro y hy
      rcases List.mem_cons.mp hy with rfl | hy
      · split at h2 <;> split <;> omega
      · exact h3 y hy
theorem most1_spec : ∀ (xs : List Int) (m : Int), (most1 xs m = m ∨ most1 xs m ∈ xs) ∧ m ≤ most1 xs m ∧ ∀ y ∈ xs, y ≤ most1 xs m
  | [], m => ⟨.inl rfl, Int.le_refl _, by simp⟩
  | x :: xs, m => by
    obtain ⟨h1, h2, h3⟩ := most1_spec xs (if x > m then x else m)
    unfold most1
    refine ⟨?_, ?_, ?_⟩
    · rcases h1 with h1 | h1
      · split at h1
        · right; rw [if_pos (by assumption), h1]; simp
        · left; rw [if_neg (by assumption), h1]
      · right; exact List.mem_cons_of_mem _ h1
    · split at h2 <;> split <;> omega
    · intro y hy
      rcases List.mem_cons.mp hy with rfl | hy
      · split at h2 <;> split <;> omega
      · exact h3 y hy
theorem leastI_spec {xs : List Int} (h : xs ≠ []) : leastI xs ∈ xs ∧ ∀ y ∈ xs, leastI xs ≤ y := by
  cases xs with
  | nil => exact absurd rfl h
  | cons x xs =>
    obtain ⟨h1, h2, h3⟩ := least1_spec xs x
    refine ⟨?_, ?_⟩
    · show least1 xs x ∈ _
      rcases h1 with h1 | h1
      · rw [h1]; simp
      · exact List.mem_cons_of_mem _ h1
    · intro y hy
      rcases List.mem_cons.mp hy with rfl | hy
      · exact h2
      · exact h3 y hy
theorem mostI_spec {xs : List Int} (h : xs ≠ []) : mostI xs ∈ xs ∧ ∀ y ∈ xs, y ≤ mostI xs := by
  cases xs with
  | nil => exact absurd rfl h
  | cons x xs =>
    obtain ⟨h1, h2, h3⟩ := most1_spec xs x
    refine ⟨?_, ?_⟩
    · show most1 xs x ∈ _
      rcases h1 with h1 | h1
      · rw [h1]; simp
      · exact List.mem_cons_of_mem _ h1
    · intro y hy
      rcases List.mem_cons.mp hy with rfl | hy
      · exact h2
      · exact h3 y hy
def gMin : GA := fun ds S => match ds with
  | [.int i, .int j] => some (.int (if j < i then j else i), S)
  | [d] => match lsOf S d with
    | some xs => match intsOf xs with
      | some ns => if ns = [] then none else some (.int (leastI ns), S)
      | none => none
    | none => none
  | _ => none
def gMax : GA := fun ds S => match ds with
  | [.int i, .int j] => some (.int (if j > i then j else i), S)
  | [d] => match lsOf S d with
    | some xs => match intsOf xs with
      | some ns => if ns = [] then none else some (.int (mostI ns), S)
      | none => none
    | none => none
  | _ => none
def rMinA (K : PySem.W.Frag) : List V → Hp → VK → Prop := fun xs H Q => (∃ i j, xs = [.int i, .int j] ∧ Q (.int (if j < i then j else i)) H) ∨ rMin K xs H Q
def rMaxA (K : PySem.W.Frag) : List V → Hp → VK → Prop := fun xs H Q => (∃ i j, xs = [.int i, .int j] ∧ Q (.int (if j > i then j else i)) H) ∨ rMax K xs H Q
theorem call_minA {X : Cx} (hc : X.calm = true) : CallR X (.builtin "min") (rMinA X.K) := (call_min2 hc).or (cr_min hc)
theorem call_maxA {X : Cx} (hc : X.calm = true) : CallR X (.builtin "max") (rMaxA X.K) := (call_max2 hc).or (cr_max hc)
theorem ls_ints {W : Wd} {H : Hp} {S : So} {d : D} {v : V} {xs : List D} {ns : List Int} (s : SRel K W H S) (r : DRel K W H d v) (h : lsOf S d = some xs) (h2 : intsOf xs = some ns) : ∃ a, v = .ref a ∧ H a = some (.lst (ns.map V.int)) := by
  obtain ⟨a, vs, e, h1, h3⟩ := lsOf_rel s r h
  rw [intsOf_eq h2] at h3
  rw [DRels.ints_of h3] at h1
  exact ⟨a, e, h1⟩
theorem cd_min : CallD K (rMinA K) gMin := by
  intro W H S vs ds Q s r p
  unfold gMin at p
  split at p
  · obtain ⟨v, u, rfl, h1, h2⟩ := drels2 r
    unfold DRel at h1 h2; subst h1; subst h2
    exact .inl ⟨_, _, rfl, p.here s dint⟩
  · obtain ⟨v, rfl, h1⟩ := drels1 r
    split at p
    · split at p
      · rename_i ns h3
        obtain ⟨a, rfl, h4⟩ := ls_ints s h1 (by assumption) h3
        split at p
        · exact p.elim
        · rename_i hne
          refine .inr ⟨a, ns, rfl, .of h4, by cases ns with
            | nil => exact absurd rfl hne
            | cons _ _ => simp, fun m hm hle => ?_⟩
          have sp := leastI_spec hne
          have : m = leastI ns := Int.le_antisymm (hle _ sp.1) (sp.2 m hm)
          rw [this]
          exact p.here s dint
      · exact p.elim
    · exact p.elim
  · exact p.elim
theorem cd_max : CallD K (rMaxA K) gMax := by
  intro W H S vs ds Q s r p
  unfold gMax at p
  split at p
  · obtain ⟨v, u, rfl, h1, h2⟩ := drels2 r
    unfold DRel at h1 h2; subst h1; subst h2
    exact .inl ⟨_, _, rfl, p.here s dint⟩
  · obtain ⟨v, rfl, h1⟩ := drels1 r
    split at p
    · split at p
      · rename_i ns h3
        obtain ⟨a, rfl, h4⟩ := ls_ints s h1 (by assumption) h3
        split at p
        · exact p.elim
        · rename_i hne
          refine .inr ⟨a, ns, rfl, .of h4, by cases ns with
            | nil => exact absurd rfl hne
            | cons _ _ => simp, fun m hm hle => ?_⟩
          have sp := mostI_spec hne
          have : m = mostI ns := Int.le_antisymm (sp.2 m hm) (hle _ sp.1)
          rw [this]
          exact p.here s dint
      · exact p.elim
    · exact p.elim
  · exact p.elim
/-- sum -/
def gSum : GA := fun ds S => match ds with
  | [d] => match lsOf S d with
    | some xs => match intsOf xs with
      | some ns => some (.int ns.sum, S)
      | none => none
    | none => none
  | _ => none
theorem cd_sum : CallD K (rSum K) gSum := by
  intro W H S vs ds Q s r p
  unfold gSum at p
  split at p
  · obtain ⟨v, rfl, h1⟩ := drels1 r
    split at p
    · split at p
      · rename_i ns h3
        obtain ⟨a, rfl, h4⟩ := ls_ints s h1 (by assumption) h3
        exact ⟨a, ns, rfl, .of h4, p.here s dint⟩
      · exact p.elim
    · exact p.elim
  · exact p.elim
/-- sorted: of ints -/
def isort : List Int → List Int
  | [] => []
  | x :: xs => ins x (isort xs)
where ins (x : Int) : List Int → List Int
  | [] => [x]
  | y :: ys => if x ≤ y then x :: y :: ys else y :: ins x ys
theorem ins_perm (x : Int) : ∀ ys : List Int, (isort.ins x ys).Perm (x :: ys)
  | [] => .refl _
  | y :: ys => by
    unfold isort.ins
    split
    · exact .refl _
    · exact ((ins_perm x ys).cons y).trans (.swap x y ys)
theorem isort_perm : ∀ xs : List Int, (isort xs).Perm xs
  | [] => .refl _
  | x :: xs => (ins_perm x _).trans ((isort_perm xs).cons x)
theorem ins_sorted (x : Int) : ∀ {ys : List Int}, ys.Pairwise (· ≤ ·) → (isort.ins x ys).Pairwise (· ≤ ·)
  | [], _ => by unfold isort.ins; simp
  | y :: ys, h => by
    unfold isort.ins
    obtain ⟨h1, h2⟩ := List.pairwise_cons.mp h
    split
    · refine List.pairwise_cons.mpr ⟨fun z hz => ?_, h⟩
      rcases List.mem_cons.mp hz with rfl | hz
      · assumption
      · exact Int.le_trans (by assumption) (h1 z hz)
    · refine List.pairwise_cons.mpr ⟨fun z hz => ?_, ins_sorted x h2⟩
      rcases List.mem_cons.mp ((ins_perm x ys).mem_iff.mp hz) with rfl | hz
      · omega
      · exact h1 z hz
theorem isort_sorted : ∀ xs : List Int, (isort xs).Pairwise (· ≤ ·)
  | [] => .nil
  | x :: xs => ins_sorted x (isort_sorted xs)
theorem sorted_unique : ∀ {xs ys : List Int}, xs.Perm ys → xs.Pairwise (· ≤ ·) → ys.Pairwise (· ≤ ·) → xs = ys
  | [], ys, p, _, _ => p.symm.eq_nil.symm
  | x :: xs, [], p, _, _ => p.eq_nil
  | x :: xs, y :: ys, p, hx, hy => by
    obtain ⟨hx1, hx2⟩ := List.pairwise_cons.mp hx
    obtain ⟨hy1, hy2⟩ := List.pairwise_cons.mp hy
    have e : x = y := by
      have h1 : x ∈ y :: ys := p.mem_iff.mp List.mem_cons_self
      have h2 : y ∈ x :: xs := p.mem_iff.mpr List.mem_cons_self
      rcases List.mem_cons.mp h1 with h | h
      · exact h
      · rcases List.mem_cons.mp h2 with h' | h'
        · exact h'.symm
        · exact Int.le_antisymm (hx1 y h') (hy1 x h)
    subst e
    rw [sorted_unique (List.perm_cons x |>.mp p) hx2 hy2]
def gSorted (mu : Bool) : GA := fun ds S => match ds with
  | [d] => match lsOf S d with
    | some xs => match intsOf xs with
      | some ns => some (newL mu ((isort ns).map D.int) S)
      | none => none
    | none => none
  | _ => none
theorem cd_sorted (mu : Bool) : CallD K (rSortedI K) (gSorted mu) := by
  intro W H S vs ds Q s r p
  unfold gSorted at p
  split at p
  · obtain ⟨v, rfl, h1⟩ := drels1 r
    split at p
    · split at p
      · rename_i ns h3
        obtain ⟨a, rfl, h4⟩ := ls_ints s h1 (by assumption) h3
        refine ⟨a, ns, rfl, .of h4, fun ns' q hp' hs' hq => ?_⟩
        have : ns' = isort ns := sorted_unique (hp'.trans (isort_perm ns).symm) hs' (isort_sorted ns)
        subst this
        exact new_list mu s (DRels.ints _) p hq
      · exact p.elim
    · exact p.elim
  · exact p.elim
/-- list(x), tuple(x) -/
def gList (mu : Bool) : GA := fun ds S => match ds with
  | [d] => match sqOf S d with
    | some xs => some (newL mu xs S)
    | none => none
  | _ => none
theorem cd_list (mu : Bool) : CallD K (fun xs H Q => ∃ p ys, xs = [.ref p] ∧ (SqL K H p ys ∨ SqT K H p ys) ∧ ∀ l, H l = none → Q (.ref l) (upd H l (.lst ys))) (gList mu) := by
  intro W H S vs ds Q s r p
  unfold gList at p
  split at p
  · obtain ⟨v, rfl, h1⟩ := drels1 r
    split at p
    · obtain ⟨a, us, rfl, h2, h3⟩ := sqOf_rel s h1 (by assumption)
      exact ⟨a, us, rfl, h2, fun q hq => new_list mu s h3 p hq⟩
    · exact p.elim
  · exact p.elim
def gTuple : GA := fun ds S => match ds with
  | [d] => match sqOf S d with
    | some xs => some (.tup xs, S)
    | none => none
  | _ => none
theorem cd_tuple : CallD K (fun xs H Q => ∃ p ys, xs = [.ref p] ∧ ((SqL K H p ys ∧ ∀ l, H l = none → Q (.ref l) (upd H l (.tup ys))) ∨ (SqT K H p ys ∧ Q (.ref p) H))) gTuple := by
  intro W H S vs ds Q s r p
  unfold gTuple at p
  split at p
  · obtain ⟨v, rfl, h1⟩ := drels1 r
    split at p
    · obtain ⟨a, us, rfl, h2, h3⟩ := sqOf_rel s h1 (by assumption)
      refine ⟨a, us, rfl, ?_⟩
      rcases h2 with h2 | h2
      · exact .inl ⟨h2, fun q hq => new_tup s h3 p hq⟩
      · exact .inr ⟨h2, p.here s (drel_same h2 h3)⟩
    · exact p.elim
  · exact p.elim
end one
/-! ### isinstance of a built-in class -/
def tyN (S : So) : D → Option String
  | .non => some "NoneType"
  | .bl _ => some "bool"
  | .int _ => some "int"
  | .str _ => some "str"
  | .tup _ => some "tuple"
  | .lst _ => some "list"
  | .ref n => match S[n]? with
    | some (.lst _) => some "list"
    | some (.dic _) => some "dict"
    | _ => none
  | .scr _ => none
def fIsi (T : String) (f : FE) : FE := fun en S => (f en S).bind fun d S1 => match tyN S1 d with
  | some t => match kitB t T with
    | some b => .ok (.bl b) S1
    | none => .no
  | none => .no
theorem tyN_rel {K : PySem.W.Frag} {W : Wd} {H : Hp} {S : So} {d : D} {v : V} {t : String} (s : SRel K W H S) (r : DRel K W H d v) (h : tyN S d = some t) : TyX K H v (.type t) := by
  cases d with
  | non => unfold DRel at r; subst r; simp only [tyN] at h; cases h; exact .base .non
  | bl b => unfold DRel at r; subst r; simp only [tyN] at h; cases h; exact .base (.bl b)
  | int b => unfold DRel at r; subst r; simp only [tyN] at h; cases h; exact .base (.int b)
  | str b => unfold DRel at r; subst r; simp only [tyN] at h; cases h; exact .base (.str b)
  | tup ds =>
    unfold DRel at r; obtain ⟨a, vs, rfl, h1, _⟩ := r
    simp only [tyN] at h; cases h
    rcases h1 with (h1 | ⟨o, h1⟩) | ⟨o, its, n, h1, h2, _⟩
    · exact .base (.tup h1)
    · exact .fTuple h1
    · exact .kTuple h1 h2
  | lst ds =>
    unfold DRel at r; obtain ⟨a, vs, rfl, h1, _⟩ := r
    simp only [tyN] at h; cases h
    exact .base (.lst h1.2)
  | ref n =>
    unfold DRel at r; obtain ⟨a, rfl, h1⟩ := r
    simp only [tyN] at h
    split at h
    · rename_i hn
      cases h
      obtain ⟨vs, h2, _⟩ := s.obj n a _ h1 hn
      exact .base (.lst h2)
    · rename_i hn
      cases h
      obtain ⟨vs, h2, _⟩ := s.obj n a _ h1 hn
      exact .base (.dK h2)
    · cases h
  | scr n => simp only [tyN] at h; cases h
theorem pf_isi {X : Cx} {Wx : WX} {a : Expr} {fa : FE} {T : Str} {t : String} {p q pos : Pos} (ha : PFE X Wx a fa) (hg : Gl X "isinstance") (hm : X.mg "isinstance" = none) (hgT : Gl X T) (hmT : X.mg T = none) (hvT : bootBuiltins T = some (.type t) := by decide +kernel)
    (hn : T ≠ "__name__" := by decide) (hd : (T == ("__debug__" : Str)) = false := by decide)
    (he : starEach [a, .Name T q] X.env = (false, eval a X.env) :: starEach [.Name T q] X.env := by rfl) (he2 : starEach [.Name T q] X.env = (false, eval (.Name T q) X.env) :: starEach [] X.env := by rfl)
    (hpl : (backTo pos (starEach [.Name T q] X.env)).any (·.1) = false := by rfl) : PFE X Wx (.Call (.Name "isinstance" p) [a, .Name T q] [] pos) (fIsi t fa) := by
  refine ⟨fun W H σ en S Q he' hs hp => PE_w (pe_callB call_isi hg hm (by decide +kernel) (pa_cons pe_w (pa_cons (pe_bltn (v := .ty t) hgT hmT hvT rfl hn hd) pa_nil he2) he) (he := he) (hpl := hpl)) ?_⟩
  refine ha.run W H σ en S _ he' hs (Post.bind hp fun d S1 W1 H1 v e1 s1 r1 p1 => ?_)
  split at p1
  · split at p1
    · rename_i b hb
      exact ⟨v, .ty t, _, _, b, rfl, .ty t, tyN_rel s1 r1 (by assumption), kit_ty hb, p1.here s1 dbl⟩
    · exact p1.elim
  · exact p1.elim
/-! ### -x -/
def fNeg (f : FE) : FE := fun en S => (f en S).bind fun d S1 => match d with
  | .int i => .ok (.int (-i)) S1
  | _ => .no
theorem pf_neg {X : Cx} {Wx : WX} {a : Expr} {fa : FE} {pos : Pos} (ha : PFE X Wx a fa) : PFE X Wx (.UnaryOp .USub a pos) (fNeg fa) := by
  refine ⟨fun W H σ en S Q he hs hp => PE_w (pe_un un_neg pe_w) (ha.run W H σ en S _ he hs (Post.bind hp fun d S1 W1 H1 v e1 s1 r1 p1 => ?_))⟩
  cases d with
  | int i => unfold DRel at r1; exact ⟨i, r1, p1.here s1 dint⟩
  | _ => exact p1.elim
end PF

namespace PF
open PySem L2
variable [Tab]
/-! ### subscripts -/
def gIx : G2 := fun a b S => match a, b with
  | .str z, .int i => if z.length ≤ sizeLine then (match atI z.cps.toList i with
    | some c => some (.str ⟨#[c]⟩, S)
    | none => none) else none
  | a, .int i => match sqOf S a with
    | some xs => match atI xs i with
      | some d => some (d, S)
      | none => none
    | none => none
  | _, _ => none
section ix
variable {K : PySem.W.Frag}
theorem DRels.atI {W : Wd} {H : Hp} {ds : List D} {vs : List V} {i : Int} {d : D} (r : DRels K W H ds vs) (h : atI ds i = some d) : ∃ v, L2.atI vs i = some v ∧ DRel K W H d v := by
  unfold L2.atI at h ⊢
  rw [r.length] at h
  cases e : ixN vs.length i with
  | none => rw [e] at h; cases h
  | some j =>
    rw [e] at h
    obtain ⟨v, h1, h2⟩ := r.get (i := j) (d := d) h
    exact ⟨v, h1, h2⟩
theorem opd_ix : OpD K (rIx K) gIx := by
  intro W H S x y a b Q s ra rb p
  unfold gIx at p
  split at p
  · unfold DRel at ra rb
    split at p
    · split at p
      · exact .inr (.inr ⟨_, _, _, ra, rb, by assumption, by assumption, p.here s dstr⟩)
      · exact p.elim
    · exact p.elim
  · unfold DRel at rb
    split at p
    · split at p
      · obtain ⟨q, vs, e, h1, h2⟩ := sqOf_rel s ra (by assumption)
        obtain ⟨v, h3, h4⟩ := h2.atI (by assumption)
        rcases h1 with h1 | h1
        · exact .inl ⟨q, vs, _, v, e, rb, h1, h3, p.here s h4⟩
        · exact .inr (.inl ⟨q, vs, _, v, e, rb, h1, h3, p.here s h4⟩)
      · exact p.elim
    · exact p.elim
  · exact p.elim
theorem pf_ix {X : Cx} {Wx : WX} {a b : Expr} {fa fb : FE} {pos : Pos} (ha : PFE X Wx a fa) (hb : PFE X Wx b fb) (hs : PlainIx b := by intro _ _; rfl) : PFE X Wx (.Subscript a b pos) (fOp gIx fa fb) :=
  ⟨fun W H σ en S Q he hs' hp => PE_w (pe_ix ix_seq pe_w pe_w hs) (bind2 ha hb he hs' hp fun W2 H2 S2 x y d1 d2 _ s2 r1 r2 p => opd_ix W2 H2 S2 x y d1 d2 Q s2 r1 r2 p)⟩
/-! slices -/
abbrev FO := En → So → Rs (Option Int)
def EqO : PySem.W.Frag → Wd → Hp → Option Int → Option Int → Prop := fun _ _ _ a b => b = a
structure PFO (X : Cx) (Wx : WX) (e : Option Expr) (f : FO) : Prop where
  run : ∀ (W : Wd) (H : Hp) (σ : St) (en : En) (S : So) (Q : Option Int → Hp → Prop), ERel X.K W H en σ → SRel X.K W H S → Post X.K EqO W H (f en S) Q (Wish Wx σ) → wO X e σ H Q
def fNoPart : FO := fun _ S => .ok none S
def fPart (f : FE) : FO := fun en S => (f en S).bind fun d S1 => match d with
  | .int i => .ok (some i) S1
  | _ => .no
theorem pfo_none {X : Cx} {Wx : WX} : PFO X Wx none fNoPart := ⟨fun W H σ en S Q he hs hp => PO_w po_none (Post.here hp hs rfl)⟩
theorem pfo_some {X : Cx} {Wx : WX} {e : Expr} {f : FE} (h : PFE X Wx e f) : PFO X Wx (some e) (fPart f) := by
  refine ⟨fun W H σ en S Q he hs hp => PO_w (po_some pe_w) (h.run W H σ en S _ he hs (Post.bind hp fun d S1 W1 H1 v e1 s1 r1 p1 => ?_))⟩
  cases d with
  | int i => unfold DRel at r1; exact ⟨i, r1, p1.here s1 rfl⟩
  | _ => exact p1.elim
def cutD (xs : List D) (lo hi : Option Int) : List D := (xs.drop (HT.sIx xs.length 0 lo)).take (HT.sIx xs.length xs.length hi - HT.sIx xs.length 0 lo)
theorem cut_rel {W : Wd} {H : Hp} {ds : List D} {vs : List V} (lo hi : Option Int) (r : DRels K W H ds vs) : DRels K W H (cutD ds lo hi) (cutV vs lo hi) := by
  unfold cutD cutV
  rw [r.length]
  exact (r.drop _).take _
def gSl (mu : Bool) (a : D) (lo hi : Option Int) (S : So) : Option (D × So) := match a with
  | .str z => if z.length ≤ sizeLine then some (.str (cutS z lo hi), S) else none
  | .tup xs => some (.tup (cutD xs lo hi), S)
  | .scr ns => some (newL mu (cutD (ns.map D.int) lo hi) S)
  | a => match lsOf S a with
    | some xs => some (newL mu (cutD xs lo hi) S)
    | none => none
def rSlAll (K : PySem.W.Frag) : V → Option Int → Option Int → Hp → VK → Prop := fun x lo hi H Q => rSlL K x lo hi H Q ∨ rSlA K x lo hi H Q ∨ rSlS x lo hi H Q
theorem sl_all {X : Cx} : SlR X (rSlAll X.K) := sl_list.or (sl_tupA.or sl_str)
theorem sld {W : Wd} {H : Hp} {S : So} {x : V} {a : D} {lo hi : Option Int} {Q : VK} (mu : Bool) (s : SRel K W H S) (ra : DRel K W H a x) (p : PostO K W H (gSl mu a lo hi S) Q) : rSlAll K x lo hi H Q := by
  unfold gSl at p
  split at p
  · unfold DRel at ra
    split at p
    · exact .inr (.inr ⟨_, ra, by assumption, p.here s dstr⟩)
    · exact p.elim
  · rename_i xs
    unfold DRel at ra; obtain ⟨q, vs, e, h1, h2⟩ := ra
    refine .inr (.inl ⟨q, vs, e, h1, fun c => ?_, fun _ u hu => new_tup s (cut_rel lo hi h2) p hu⟩)
    refine p.here s ?_
    have : cutD xs lo hi = xs := by
      unfold cutD
      rw [h2.length, c.1, c.2]
      simp [← h2.length]
    rw [this]
    exact drel_same h1 h2
  · rename_i ns
    unfold DRel at ra; obtain ⟨q, e, h1⟩ := ra
    have hq : SqL K H q (ns.map V.int) := by
      rcases h1 with ⟨o, h1⟩ | h1 | h1
      · exact .inl (.inr ⟨o, h1⟩)
      · exact .inr h1
      · exact h1.sq
    exact .inl ⟨q, _, e, hq, fun u hu => new_list mu s (cut_rel lo hi (DRels.ints ns)) p hu⟩
  · split at p
    · obtain ⟨q, vs, e, h1, h2⟩ := lsOf_rel s ra (by assumption)
      exact .inl ⟨q, vs, e, .of h1, fun u hu => new_list mu s (cut_rel lo hi h2) p hu⟩
    · exact p.elim
def fSl (mu : Bool) (fa : FE) (fl fh : FO) : FE := fun en S => (fa en S).bind fun d S1 => (fl en S1).bind fun lo S2 => (fh en S2).bind fun hi S3 => ofO (gSl mu d lo hi S3)
theorem pf_sl (mu : Bool) {X : Cx} {Wx : WX} {a : Expr} {lo hi : Option Expr} {fa : FE} {fl fh : FO} {pos p2 : Pos} (ha : PFE X Wx a fa) (hl : PFO X Wx lo fl) (hh : PFO X Wx hi fh) : PFE X Wx (.Subscript a (.Slice lo hi none p2) pos) (fSl mu fa fl fh) := by
  refine ⟨fun W H σ en S Q he hs hp => PE_w (pe_slice sl_all pe_w po_w po_w) (ha.run W H σ en S _ he hs (Post.bind hp fun d S1 W1 H1 v e1 s1 r1 p1 => ?_))⟩
  refine hl.run W1 H1 σ en S1 _ (he.ext e1) s1 (Post.bind p1 fun l S2 W2 H2 l' e2 s2 r2 p2 => ?_)
  refine hh.run W2 H2 σ en S2 _ ((he.ext e1).ext e2) s2 (Post.bind p2 fun h S3 W3 H3 h' e3 s3 r3 p3 => ?_)
  cases r2; cases r3
  exact sld mu s3 (r1.ext (e2.trans e3)) (postO p3)
end ix
/-! ### methods of built-in types -/
abbrev GM := D → List D → So → Option (D × So)
def MtD (K : PySem.W.Frag) (r : V → List V → Hp → VK → Prop) (g : GM) : Prop := ∀ (W : Wd) (H : Hp) (S : So) (x : V) (vs : List V) (d : D) (ds : List D) (Q : VK), SRel K W H S → DRel K W H d x → DRels K W H ds vs → PostO K W H (g d ds S) Q → r x vs H Q
/-- of that built-in type -/
def isTy (S : So) (T : String) : D → Bool
  | .str _ => decide (T = "str")
  | .lst _ => decide (T = "list")
  | .ref n => match S[n]? with
    | some (.lst _) => decide (T = "list")
    | some (.dic _) => decide (T = "dict")
    | _ => false
  | _ => false
theorem isTy_rel {K : PySem.W.Frag} {W : Wd} {H : Hp} {S : So} {d : D} {v : V} {T : String} (s : SRel K W H S) (r : DRel K W H d v) (h : isTy S T d = true) : tyV K T v H := by
  cases d with
  | str x => unfold DRel at r; subst r; simp only [isTy, decide_eq_true_eq] at h; exact h
  | lst ds =>
    unfold DRel at r; obtain ⟨a, vs, rfl, h1, _⟩ := r
    simp only [isTy, decide_eq_true_eq] at h
    exact .inl ⟨h, vs, h1.sq⟩
  | ref n =>
    unfold DRel at r; obtain ⟨a, rfl, h1⟩ := r
    simp only [isTy] at h
    split at h
    · rename_i hn
      simp only [decide_eq_true_eq] at h
      obtain ⟨vs, h2, _⟩ := s.obj n a _ h1 hn
      exact .inl ⟨h, vs, .of h2⟩
    · rename_i hn
      simp only [decide_eq_true_eq] at h
      obtain ⟨vs, h2, _⟩ := s.obj n a _ h1 hn
      exact .inr (.inr (.inl ⟨h, .inl ⟨vs, h2⟩⟩))
    · cases h
  | _ => simp [isTy] at h
def fBM (T : String) (g : GM) (fo : FE) (fa : FA) : FE := fun en S => (fo en S).bind fun d S1 => if isTy S1 T d = true then (fa en S1).bind fun ds S2 => ofO (g d ds S2) else .no
section bm
variable {X : Cx} {Wx : WX} {o e : Expr} {es : List Expr} {fo : FE} {fa : FA} {name : Str} {apos cpos : Pos} {T id : String} {r : V → List V → Hp → VK → Prop} {g : GM}
theorem pf_bm (pa : PlainAttrs T) (slot : Slot T name id) (hty : typeOf (.builtin id) = pure (.type "method_descriptor")) (hm : MtR X id r) (hd : MtD X.K r g) (ho : PFE X Wx o fo) (ha : PFA X Wx (e :: es) fa)
    (hbase : attributeBase o name X.env (eval o X.env) = eval o X.env := by rfl)
    (hfew : ((backTo cpos (starEach (e :: es) X.env)).all (fun x => !x.1) && (backToKw cpos (keywordEach [] X.env)).all (fun x => x.1.isSome) && decide ((e :: es).length + ([] : List Keyword).length + (if ([] : List Keyword).isEmpty then 0 else 1) < 30)) = true := by rfl)
    (hline : (apos.endLine == cpos.line) = true := by rfl) (hs : starEach (e :: es) X.env = (false, eval e X.env) :: starEach es X.env := by rfl) (hplain : (backTo cpos (starEach es X.env)).any (·.1) = false := by rfl) : PFE X Wx (.Call (.Attribute o name apos) (e :: es) [] cpos) (fBM T g fo fa) := by
  refine ⟨fun W H σ en S Q he hs' hp => PE_w (pe_bm pa slot hty hm pe_w pa_w hbase hfew hline hs hplain) (ho.run W H σ en S _ he hs' (Post.bind hp fun d S1 W1 H1 v e1 s1 r1 p1 => ?_))⟩
  split at p1
  · rename_i hT
    refine ⟨isTy_rel s1 r1 hT, ha.run W1 H1 σ en S1 _ (he.ext e1) s1 (Post.bind p1 fun ds S2 W2 H2 vs e2 s2 r2 p2 => ?_)⟩
    exact hd W2 H2 S2 v vs d ds Q s2 (r1.ext e2) r2 (postO p2)
  · exact p1.elim
theorem pf_bm0 (pa : PlainAttrs T) (slot : Slot T name id) (hty : typeOf (.builtin id) = pure (.type "method_descriptor")) (hm : MtR X id r) (hd : MtD X.K r g) (ho : PFE X Wx o fo)
    (hbase : attributeBase o name X.env (eval o X.env) = eval o X.env := by rfl) (hline : (apos.endLine == cpos.line) = true := by rfl) : PFE X Wx (.Call (.Attribute o name apos) [] [] cpos) (fBM T g fo fNil) := by
  refine ⟨fun W H σ en S Q he hs hp => PE_w (pe_bm0 pa slot hty hm pe_w hbase hline) (ho.run W H σ en S _ he hs (Post.bind hp fun d S1 W1 H1 v e1 s1 r1 p1 => ?_))⟩
  split at p1
  · rename_i hT
    exact ⟨isTy_rel s1 r1 hT, hd W1 H1 S1 v [] d [] Q s1 r1 DRels.nil (postO p1)⟩
  · exact p1.elim
end bm
/-- a list of the store -/
def atL (S : So) : D → Option (Nat × List D)
  | .ref n => match S[n]? with
    | some (.lst ds) => some (n, ds)
    | _ => none
  | _ => none
section muta
variable {K : PySem.W.Frag}
theorem atL_rel {W : Wd} {H : Hp} {S : So} {d : D} {v : V} {n : Nat} {ds : List D} (s : SRel K W H S) (r : DRel K W H d v) (h : atL S d = some (n, ds)) : ∃ a vs, v = .ref a ∧ W.m[n]? = some a ∧ H a = some (.lst vs) ∧ DRels K W H ds vs := by
  cases d with
  | ref m =>
    simp only [atL] at h
    unfold DRel at r; obtain ⟨a, rfl, h1⟩ := r
    split at h
    · rename_i hn
      cases h
      obtain ⟨vs, h2, h3⟩ := s.obj _ a _ h1 hn
      exact ⟨a, vs, rfl, h1, h2, h3⟩
    · cases h
  | _ => simp only [atL] at h; cases h
theorem upd_list {W : Wd} {H : Hp} {S : So} {n : Nat} {a : Addr} {ds : List D} {vs : List V} {d : D} {v : V} {Q : VK} (s : SRel K W H S) (hn : W.m[n]? = some a) (r : DRels K W H ds vs) (rd : DRel K W H d v) (p : PostO K W H (some (d, S.set n (.lst ds))) Q) : Q v (upd H a (.lst vs)) :=
  p W _ v (ext_upd s hn) (s.upd hn trivial ⟨vs, upd_same, r.ext (ext_upd s hn)⟩) (rd.ext (ext_upd s hn))
def gAppend : GM := fun o ds S => match atL S o, ds with
  | some (n, xs), [y] => if xs.length < sizeLine then some (.non, S.set n (.lst (xs ++ [y]))) else none
  | _, _ => none
theorem md_append : MtD K rAppend gAppend := by
  intro W H S x vs d ds Q s rd rs p
  unfold gAppend at p
  split at p
  · obtain ⟨v, rfl, h1⟩ := drels1 rs
    obtain ⟨a, us, rfl, h2, h3, h4⟩ := atL_rel s rd (by assumption)
    split at p
    · exact ⟨a, us, v, rfl, rfl, h3, by rw [← h4.length]; assumption, upd_list s h2 (h4.append (DRels.cons h1 DRels.nil)) dnon p⟩
    · exact p.elim
  · exact p.elim
def gPop : GM := fun o ds S => match atL S o, ds with
  | some (n, xs), [] => match xs[xs.length - 1]? with
    | some y => some (y, S.set n (.lst xs.dropLast))
    | none => none
  | _, _ => none
theorem md_pop : MtD K rPop gPop := by
  intro W H S x vs d ds Q s rd rs p
  unfold gPop at p
  split at p
  · unfold DRels at rs; subst rs
    obtain ⟨a, us, rfl, h2, h3, h4⟩ := atL_rel s rd (by assumption)
    split at p
    · rename_i y hy
      obtain ⟨v, h5, h6⟩ := h4.get hy
      exact ⟨a, us, v, rfl, rfl, h3, by rw [← h4.length]; exact h5, upd_list s h2 h4.dropLast h6 p⟩
    · exact p.elim
  · exact p.elim
def gPopAt : GM := fun o ds S => match atL S o, ds with
  | some (n, xs), [.int i] => if -(2 ^ 63) ≤ i ∧ i < 2 ^ 63 then (match ixN xs.length i with
    | some j => match xs[j]? with
      | some y => some (y, S.set n (.lst (xs.eraseIdx j)))
      | none => none
    | none => none) else none
  | _, _ => none
theorem md_popAt : MtD K rPopAt gPopAt := by
  intro W H S x vs d ds Q s rd rs p
  unfold gPopAt at p
  split at p
  · obtain ⟨v, rfl, h1⟩ := drels1 rs
    unfold DRel at h1; subst h1
    obtain ⟨a, us, rfl, h2, h3, h4⟩ := atL_rel s rd (by assumption)
    split at p
    · rename_i hc
      split at p
      · rename_i j hj
        split at p
        · rename_i y hy
          obtain ⟨v, h5, h6⟩ := h4.get hy
          exact ⟨a, us, _, j, v, rfl, rfl, h3, hc.1, hc.2, by rw [← h4.length]; exact (ixN_seq hj).1, h5, upd_list s h2 (h4.eraseIdx j) h6 p⟩
        · exact p.elim
      · exact p.elim
    · exact p.elim
  · exact p.elim
def gExtend : GM := fun o ds S => match atL S o, ds with
  | some (n, xs), [e] => match lsOf S e with
    | some ys => if xs.length + ys.length ≤ sizeLine then some (.non, S.set n (.lst (xs ++ ys))) else none
    | none => none
  | _, _ => none
theorem md_extend : MtD K rExtend gExtend := by
  intro W H S x vs d ds Q s rd rs p
  unfold gExtend at p
  split at p
  · obtain ⟨v, rfl, h1⟩ := drels1 rs
    obtain ⟨a, us, rfl, h2, h3, h4⟩ := atL_rel s rd (by assumption)
    split at p
    · obtain ⟨b, zs, rfl, h5, h6⟩ := lsOf_rel s h1 (by assumption)
      split at p
      · exact ⟨a, b, us, zs, rfl, rfl, h3, h5, by rw [← h4.length, ← h6.length]; assumption, upd_list s h2 (h4.append h6) dnon p⟩
      · exact p.elim
    · exact p.elim
  · exact p.elim
/-! o[i] = v -/
def gSet (o i v : D) (S : So) : Option So := match atL S o, i with
  | some (n, xs), .int k => match ixN xs.length k with
    | some j => some (S.set n (.lst (xs.set j v)))
    | none => none
  | _, _ => none
def gtSub (fo fi : FE) : FG := fun d en S => match fo en S with
  | .ok o S1 => match fi en S1 with
    | .ok i S2 => match gSet o i d S2 with
      | some S3 => some (en, S3)
      | none => none
    | _ => none
  | _ => none
theorem pfg_sub {X : Cx} {Wx : WX} {o i : Expr} {fo fi : FE} {pos : Pos} (ho : PFE X Wx o fo) (hi : PFE X Wx i fi)
    (ha : ∀ v, assign (.Subscript o i pos) X.env v = (do
      let ov ← holding [v] (eval o X.env)
      let iv ← holding [v, ov] (eval i X.env)
      standAt pos
      holding [v, ov, iv] (setItem ov iv v)
      release [v, ov, iv] []) := by intro _; rfl) : PFG X (.Subscript o i pos) (gtSub fo fi) := by
  refine ⟨fun W H σ en S d v Q he hs r hp => PG_w (pg_sub pe_w pe_w set_list ha) ?_⟩
  unfold gtSub at hp
  split at hp
  · rename_i od S1 ho'
    refine ho.run W H σ en S _ he hs ?_
    rw [ho']
    intro W1 H1 x e1 s1 r1
    split at hp
    · rename_i idd S2 hi'
      refine hi.run W1 H1 σ en S1 _ (he.ext e1) s1 ?_
      rw [hi']
      intro W2 H2 y e2 s2 r2
      split at hp
      · rename_i S3 hS
        unfold gSet at hS
        split at hS
        · rename_i hL
          split at hS
          · rename_i j hj
            cases hS
            obtain ⟨a, us, rfl, h2, h3, h4⟩ := atL_rel s2 (r1.ext e2) hL
            unfold DRel at r2; subst r2
            have hp2 := PostG.later hp (e1.trans e2)
            have rv := r.ext (e1.trans e2)
            refine ⟨a, us, _, j, rfl, rfl, h3, by rw [← h4.length]; exact hj, ?_⟩
            exact hp2 W2 _ σ (ext_upd s2 h2) (s2.upd h2 trivial ⟨_, upd_same, (DRels.set rv j h4).ext (ext_upd s2 h2)⟩) (((he.ext e1).ext e2).ext (ext_upd s2 h2))
          · cases hS
        · cases hS
      · exact hp.elim
    · exact hp.elim
  · exact hp.elim
end muta
/-! ### what is walked -/
def iterOf (S : So) : D → Option ItD
  | .tup ds => some (.items ds)
  | .lst ds => some (.items ds)
  | .ref n => match S[n]? with
    | some (.lst _) => some (.live n)
    | _ => none
  | .str x => some (.items (x.cps.toList.map fun c => .str ⟨#[c]⟩))
  | _ => none
def ofI (o : Option ItD) (S : So) : Rs ItD := match o with
  | some t => .ok t S
  | none => .no
def fiSeq (f : FE) : FI := fun en S => (f en S).bind fun d S1 => ofI (iterOf S1 d) S1
section iters
variable {K : PySem.W.Frag} {W : Wd} {H : Hp}
theorem itr_list {a : Addr} {ds : List D} {vs : List V} (h : FzL W H a vs) (r : DRels K W H ds vs) : ItR K W H (.items ds) (Itl K a) := by
  intro W' H' S x s i
  have hl := h.ext x
  have r' := r.ext x
  simp only [ItD.at]
  cases e : ds[i]? with
  | none => exact ⟨vs, hl.sq, by rw [← r'.length]; exact List.getElem?_eq_none_iff.mp e⟩
  | some d =>
    obtain ⟨v, h1, h2⟩ := r'.get e
    refine ⟨⟨vs, v, hl.sq, h1⟩, fun y H'' hy => ?_⟩
    obtain ⟨rfl, hy⟩ := hy
    have := hy vs hl.sq
    rw [h1] at this
    cases this
    exact ⟨Ext.refl, s, h2⟩
theorem itr_tup {a : Addr} {ds : List D} {vs : List V} (h : SqT K H a vs) (r : DRels K W H ds vs) : ItR K W H (.items ds) (Itt K a) := by
  intro W' H' S x s i
  have hl := x.tup _ _ h
  have r' := r.ext x
  simp only [ItD.at]
  cases e : ds[i]? with
  | none => exact ⟨vs, hl, by rw [← r'.length]; exact List.getElem?_eq_none_iff.mp e⟩
  | some d =>
    obtain ⟨v, h1, h2⟩ := r'.get e
    refine ⟨⟨vs, v, hl, h1⟩, fun y H'' hy => ?_⟩
    obtain ⟨rfl, hy⟩ := hy
    have := hy vs hl
    rw [h1] at this
    cases this
    exact ⟨Ext.refl, s, h2⟩
theorem itr_live {a : Addr} {n : Nat} (h : W.m[n]? = some a) : ItR K W H (.live n) (Itl K a) := by
  intro W' H' S x s i
  simp only [ItD.at]
  cases c : S[n]? with
  | none => trivial
  | some o =>
    cases o with
    | lst ds =>
      simp only
      obtain ⟨vs, h1, r'⟩ := s.obj n a _ (x.m _ _ h) c
      cases e : ds[i]? with
      | none => exact ⟨vs, .of h1, by rw [← r'.length]; exact List.getElem?_eq_none_iff.mp e⟩
      | some d =>
        obtain ⟨v, h3, h2⟩ := r'.get e
        refine ⟨⟨vs, v, .of h1, h3⟩, fun y H'' hy => ?_⟩
        obtain ⟨rfl, hy⟩ := hy
        have := hy vs (.of h1)
        rw [h3] at this
        cases this
        exact ⟨Ext.refl, s, h2⟩
    | _ => trivial
theorem itr_str {x : Str} : ItR K W H (.items (x.cps.toList.map fun c => .str ⟨#[c]⟩)) (Its x) := by
  intro W' H' S e s i
  simp only [ItD.at, List.getElem?_map]
  cases c : x.cps.toList[i]? with
  | none =>
    simp only [Option.map_none]
    have := List.getElem?_eq_none_iff.mp c
    show x.cps.size ≤ i
    simpa using this
  | some d =>
    simp only [Option.map_some]
    have hc : x.cps[i]? = some d := by simpa using c
    have hl := (List.getElem?_eq_some_iff.mp c).1
    refine ⟨(show i < x.cps.size by simpa using hl), fun y H'' hy => ?_⟩
    obtain ⟨rfl, c', h1, rfl⟩ := hy
    rw [hc] at h1; cases h1
    exact ⟨Ext.refl, s, dstr⟩
/-- lo, lo + 1, .. -/
def rgD (lo : Int) (n : Nat) : List D := (List.range n).map fun (i : Nat) => D.int (lo + (i : Int))
theorem itr_range {lo : Int} {n : Nat} : ItR K W H (.items (rgD lo n)) (Itr lo n) := by
  intro W' H' S e s i
  simp only [ItD.at, rgD, List.getElem?_map]
  by_cases c : i < n
  · rw [List.getElem?_range c]
    refine ⟨c, fun y H'' hy => ?_⟩
    obtain ⟨rfl, rfl⟩ := hy
    exact ⟨Ext.refl, s, dint⟩
  · rw [List.getElem?_eq_none (by simpa using c)]
    exact Nat.le_of_not_lt c
def rgC (lo c : Int) (n : Nat) : List D := (List.range n).map fun (i : Nat) => D.int (lo + (i : Int) * c)
theorem itr_rangeC {lo c : Int} {n : Nat} : ItR K W H (.items (rgC lo c n)) (Itc lo c n) := by
  intro W' H' S e s i
  simp only [ItD.at, rgC, List.getElem?_map]
  by_cases q : i < n
  · rw [List.getElem?_range q]
    refine ⟨q, fun y H'' hy => ?_⟩
    obtain ⟨rfl, rfl⟩ := hy
    exact ⟨Ext.refl, s, dint⟩
  · rw [List.getElem?_eq_none (by simpa using q)]
    exact Nat.le_of_not_lt q
def enumD (k : Nat) : List D → List D
  | [] => []
  | d :: ds => .tup [.int (k : Int), d] :: enumD (k + 1) ds
theorem enumD_get : ∀ (ds : List D) (k i : Nat), (enumD k ds)[i]? = (ds[i]?).map fun d => .tup [.int ((k + i : Nat) : Int), d]
  | [], k, i => by simp [enumD]
  | d :: ds, k, 0 => by simp [enumD]
  | d :: ds, k, i + 1 => by
    simp only [enumD, List.getElem?_cons_succ, enumD_get ds (k + 1) i]
    rw [show k + 1 + i = k + (i + 1) by omega]
theorem itr_enum {a : Addr} {ds : List D} {vs : List V} (h : FzL W H a vs) (r : DRels K W H ds vs) : ItR K W H (.items (enumD 0 ds)) (Ite K a) := by
  intro W' H' S x s i
  have hl := h.ext x
  have r' := r.ext x
  simp only [ItD.at, enumD_get]
  cases e : ds[i]? with
  | none => exact ⟨vs, hl.sq, by rw [← r'.length]; exact List.getElem?_eq_none_iff.mp e⟩
  | some d =>
    obtain ⟨v, h1, h2⟩ := r'.get e
    refine ⟨⟨vs, v, hl.sq, h1⟩, fun y H'' hy => ?_⟩
    obtain ⟨T, x', rfl, hT, rfl, hy⟩ := hy
    have := hy vs hl.sq
    rw [h1] at this
    cases this
    refine ⟨ext_more s hT, s.more hT, ?_⟩
    have := drel_tup (K := K) (W := W') (ds := [.int ((0 + i : Nat) : Int), d]) s hT (DRels.cons (v := .int (i : Nat)) (by unfold DRel; simp) (DRels.cons h2 DRels.nil))
    exact this
end iters
section walked
variable {X : Cx} {Wx : WX} {tg l e a b c : Expr} {fe : FE} {fa : FA} {p pos tpos : Pos}
theorem pfi_seq (h : PFE X Wx l fe) : PFI X Wx tg l (fiSeq fe) := by
  refine ⟨fun W H σ en S Q he hs hp => ?_⟩
  unfold fiSeq at hp
  cases q : fe en S with
  | no => rw [q] at hp; exact hp.elim
  | ex C S1 => rw [q] at hp; exact PI_w (pi_list pe_w) (h.run W H σ en S _ he hs (by rw [q]; exact hp))
  | ok d S1 =>
    rw [q] at hp
    have go : ∀ {R : V → Hp → Prop}, (∀ W1 H1 v, Ext X.K W H W1 H1 → SRel X.K W1 H1 S1 → DRel X.K W1 H1 d v → Post X.K ItR W1 H1 (ofI (iterOf S1 d) S1) Q (Wish Wx σ) → R v H1) → wE X l σ H R := fun k =>
      h.run W H σ en S _ he hs (by rw [q]; exact fun W1 H1 v e1 s1 r1 => k W1 H1 v e1 s1 r1 (Post.later hp e1))
    cases d with
    | tup ds =>
      refine PI_w (pi_tup pe_w) (go fun W1 H1 v e1 s1 r1 p1 => ?_)
      unfold DRel at r1; obtain ⟨a, vs, rfl, h1, h2⟩ := r1
      exact ⟨a, rfl, ⟨vs, h1⟩, p1.here s1 (itr_tup h1 h2)⟩
    | lst ds =>
      refine PI_w (pi_list pe_w) (go fun W1 H1 v e1 s1 r1 p1 => ?_)
      unfold DRel at r1; obtain ⟨a, vs, rfl, h1, h2⟩ := r1
      exact ⟨a, rfl, ⟨vs, h1.sq⟩, p1.here s1 (itr_list h1 h2)⟩
    | ref n =>
      refine PI_w (pi_list pe_w) (go fun W1 H1 v e1 s1 r1 p1 => ?_)
      unfold DRel at r1; obtain ⟨a, rfl, h1⟩ := r1
      simp only [iterOf] at p1
      split at p1
      · rename_i ds hn
        obtain ⟨vs, h2, h3⟩ := s1.obj n a _ h1 hn
        exact ⟨a, rfl, ⟨vs, .of h2⟩, p1.here s1 (itr_live h1)⟩
      · exact p1.elim
    | str x =>
      refine PI_w (pi_str pe_w) (go fun W1 H1 v e1 s1 r1 p1 => ?_)
      unfold DRel at r1
      exact ⟨x, r1, p1.here s1 itr_str⟩
    | _ => exact hp.elim
/-- the ends of a range -/
def fiRng1 (fa : FA) : FI := fun en S => (fa en S).bind fun ds S1 => match ds with
  | [.int j] => if -(2 ^ 62) ≤ j ∧ j < 2 ^ 62 then .ok (.items (rgD 0 j.toNat)) S1 else .no
  | _ => .no
def fiRng2 (fa : FA) : FI := fun en S => (fa en S).bind fun ds S1 => match ds with
  | [.int i, .int j] => if -(2 ^ 62) ≤ i ∧ i < 2 ^ 62 ∧ -(2 ^ 62) ≤ j ∧ j < 2 ^ 62 then .ok (.items (rgD i (j - i).toNat)) S1 else .no
  | _ => .no
theorem pfi_range1 (hg : Gl X "range") (hm : X.mg "range" = none) (ha : PFA X Wx [a] fa) (hs : starEach [a] X.env = [(false, eval a X.env)] := by rfl) : PFI X Wx tg (.Call (.Name "range" p) [a] [] pos) (fiRng1 fa) := by
  refine ⟨fun W H σ en S Q he hs' hp => PI_w (pi_range1 hg hm pa_w hs) (ha.run W H σ en S _ he hs' (Post.bind hp fun ds S1 W1 H1 vs e1 s1 r1 p1 => ?_))⟩
  split at p1
  · obtain ⟨v, rfl, h1⟩ := drels1 r1
    unfold DRel at h1; subst h1
    split at p1
    · rename_i hc
      exact ⟨_, rfl, hc.1, hc.2, p1.here s1 itr_range⟩
    · exact p1.elim
  · exact p1.elim
theorem pfi_range2 (hg : Gl X "range") (hm : X.mg "range" = none) (ha : PFA X Wx [a, b] fa) (hs : starEach [a, b] X.env = [(false, eval a X.env), (false, eval b X.env)] := by rfl) (hs2 : starEach [b] X.env = [(false, eval b X.env)] := by rfl) : PFI X Wx tg (.Call (.Name "range" p) [a, b] [] pos) (fiRng2 fa) := by
  refine ⟨fun W H σ en S Q he hs' hp => PI_w (pi_range2 hg hm pa_w hs hs2) (ha.run W H σ en S _ he hs' (Post.bind hp fun ds S1 W1 H1 vs e1 s1 r1 p1 => ?_))⟩
  split at p1
  · obtain ⟨v, u, rfl, h1, h2⟩ := drels2 r1
    unfold DRel at h1 h2; subst h1; subst h2
    split at p1
    · rename_i hc
      exact ⟨_, _, rfl, hc, p1.here s1 itr_range⟩
    · exact p1.elim
  · exact p1.elim
/-- enumerate of a frozen list -/
def fiEnum (fa : FA) : FI := fun en S => (fa en S).bind fun ds S1 => match ds with
  | [.lst xs] => .ok (.items (enumD 0 xs)) S1
  | _ => .no
theorem pfi_enum {elts : List Expr} {kk : Nat} (hg : Gl X "enumerate") (hm : X.mg "enumerate" = none) (ha : PFA X Wx [a] fa) (hs : starEach [a] X.env = [(false, eval a X.env)] := by rfl) : PFI X Wx (.Tuple elts kk tpos) (.Call (.Name "enumerate" p) [a] [] pos) (fiEnum fa) := by
  refine ⟨fun W H σ en S Q he hs' hp => PI_w (pi_enum hg hm pa_w hs) (ha.run W H σ en S _ he hs' (Post.bind hp fun ds S1 W1 H1 vs e1 s1 r1 p1 => ?_))⟩
  split at p1
  · obtain ⟨v, rfl, h1⟩ := drels1 r1
    unfold DRel at h1; obtain ⟨q, us, rfl, h1, h2⟩ := h1
    exact ⟨q, us, rfl, h1.sq, p1.here s1 (itr_enum h1 h2)⟩
  · exact p1.elim
end walked
end PF

namespace PF
open PySem L2
variable [Tab]
/-! ### list comprehensions -/
/-- the turns over fixed items -/
def lcL (g : FG) (c : FT) (f : FE) (en : En) : List D → List D → So → Rs (List D)
  | [], acc, S => .ok acc S
  | d :: ds, acc, S => match g d en S with
    | none => .no
    | some (e1, S1) => (c e1 S1).bind fun k S2 => if k = true then (f e1 S2).bind fun y S3 => if acc.length < sizeLine then lcL g c f en ds (acc ++ [y]) S3 else .no else lcL g c f en ds acc S2
def lcR (g : FG) (c : FT) (f : FE) (en : En) (n : Nat) : Nat → Nat → List D → So → Rs (List D)
  | 0, _, _, _ => .no
  | m + 1, i, acc, S => match S[n]? with
    | some (.lst ds) => match ds[i]? with
      | none => .ok acc S
      | some d => match g d en S with
        | none => .no
        | some (e1, S1) => (c e1 S1).bind fun k S2 => if k = true then (f e1 S2).bind fun y S3 => if acc.length < sizeLine then lcR g c f en n m (i + 1) (acc ++ [y]) S3 else .no else lcR g c f en n m (i + 1) acc S2
    | _ => .no
def wipeD (en : En) : List Nat → En
  | [] => en
  | v :: vs => (wipeD en vs).set v none
theorem wipe_rel {K : PySem.W.Frag} {W : Wd} {H : Hp} {en : En} {σ : St} (h : ERel K W H en σ) : ∀ vs : List Nat, ERel K W H (wipeD en vs) (wipe σ vs)
  | [] => h
  | v :: vs => (wipe_rel h vs).clear
/-- nothing is raised in a comprehension's turns -/
def noX (r : Rs (List D)) : Rs (List D) := match r with
  | .ok a S => .ok a S
  | _ => .no
def lcT (m : Nat) (g : FG) (c : FT) (f : FE) (en : En) (t : ItD) (S : So) : Rs (List D) := match t with
  | .items ds => lcL g c f en ds [] S
  | .live n => lcR g c f en n m 0 [] S
def fLc (m : Nat) (mu : Bool) (vs : List Nat) (fi : FI) (g : FG) (c : FT) (f : FE) : FE := fun en S => (fi en S).bind fun t S1 => (noX (lcT m g c f (wipeD en vs) t S1)).bind fun ds S2 => ofO (some (newL mu ds S2))
/-- a target that writes the names at vs alone -/
structure OwnG (K : PySem.W.Frag) (t : TG) (vs : List Nat) (g : FG) : Prop where
  keep : ∀ d en S e1 S1, g d en S = some (e1, S1) → S1 = S
  run : ∀ (W : Wd) (H : Hp) (σ : St) (en : En) (S : So) (d : D) (v : V) (e1 : En) (S1 : So) (Q : St → Hp → Prop), ERel K W H en σ → DRel K W H d v → g d en S = some (e1, S1) →
    (∀ σ2, wipe σ2 vs = wipe σ vs → ERel K W H e1 σ2 → Q σ2 H) → t v σ H Q
abbrev F0 : WX := fun _ _ _ _ => False
def Wd.res (W : Wd) (p : Addr) : Wd := ⟨W.m, W.fz, fun a => W.rs a ∨ a = p⟩
def Wd.unr (W : Wd) (p : Addr) : Wd := ⟨W.m, W.fz, fun a => W.rs a ∧ a ≠ p⟩
section res
variable {K : PySem.W.Frag} {W W' : Wd} {H : Hp} {S : So} {p : Addr}
theorem ext0_res {H' : Hp} (hH : H' = H) (hm : W'.m = W.m) (hf : W'.fz = W.fz) : Ext0 K W H W' H' := by
  subst hH
  exact ⟨fun n a h => by rw [hm]; exact h, fun a h => by rw [hf]; exact h, fun _ _ h => h, fun _ _ _ h => h, fun _ _ _ h => h⟩
theorem SRel.res {vs : List V} (s : SRel K W H S) (hp : H p = some (.lst vs)) (hm : p ∉ W.m) (hf : ¬ W.fz p) : SRel K (W.res p) H S where
  tab := s.tab
  len := s.len
  inj := s.inj
  dom := s.dom
  fzd := s.fzd
  dis := s.dis
  rsd := fun a h => by
    rcases h with h | rfl
    · exact s.rsd a h
    · exact ⟨⟨_, hp, (fun ps q => by cases q), (fun f q => by cases q)⟩, hm, hf⟩
  obj := fun n a ob h h' => (s.obj n a ob h h').ext (ext0_res (W := W) (W' := W.res p) rfl rfl rfl) rfl
theorem SRel.ofres (s : SRel K (W.res p) H S) : SRel K W H S :=
  ⟨s.tab, s.len, s.inj, s.dom, s.fzd, s.dis, fun a z => s.rsd a (.inl z), fun n a ob z z' => (s.obj n a ob z z').ext (ext0_res (W := W.res p) (W' := W) rfl rfl rfl) rfl⟩
theorem ext_res : Ext K W H (W.res p) H := ⟨ext0_res rfl rfl rfl, fun a h => ⟨.inl h, rfl⟩⟩
theorem SRel.unr (s : SRel K W H S) : SRel K (W.unr p) H S :=
  ⟨s.tab, s.len, s.inj, s.dom, s.fzd, s.dis, fun a z => s.rsd a z.1, fun n a ob z z' => (s.obj n a ob z z').ext (ext0_res (W := W) (W' := W.unr p) rfl rfl rfl) rfl⟩
/-- a list outside of the world changes -/
theorem ext0_out {vs : List V} {o : HO} (hp : H p = some (.lst vs)) (hf : ¬ W.fz p) (hm : W'.m = W.m) (hz : W'.fz = W.fz) : Ext0 K W H W' (upd H p o) where
  m := fun n a h => by rw [hm]; exact h
  fz := fun a h => by rw [hz]; exact h
  tup := fun a us h => by
    rcases h with (h | ⟨u, h⟩) | h
    · exact .inl (.inl (by rw [upd_ne (by rintro rfl; rw [h] at hp; cases hp)]; exact h))
    · exact .inl (.inr ⟨u, by rw [upd_ne (by rintro rfl; rw [h] at hp; cases hp)]; exact h⟩)
    · exact .inr h
  lst := fun a us f h => by rw [upd_ne (by rintro rfl; exact hf f)]; exact h
  scr := fun a u us h => by rw [upd_ne (by rintro rfl; rw [h] at hp; cases hp)]; exact h
theorem SRel.out {vs : List V} {o : HO} (s : SRel K W H S) (hp : H p = some (.lst vs)) (hm : p ∉ W.m) (hf : ¬ W.fz p) : SRel K (W.unr p) (L2.upd H p o) S where
  tab := tabs_upd s.tab ⟨_, hp, (fun ps q => by cases q), (fun f q => by cases q)⟩
  len := s.len
  inj := s.inj
  dom := fun n a h => by rw [upd_ne (by rintro rfl; exact hm (List.mem_of_getElem? h))]; exact s.dom n a h
  fzd := fun a h => by rw [upd_ne (by rintro rfl; exact hf h)]; exact s.fzd a h
  dis := s.dis
  rsd := fun a h => by rw [upd_ne h.2]; exact s.rsd a h.1
  obj := fun n a ob h h' => (s.obj n a ob h h').ext (ext0_out (W' := W.unr p) hp hf rfl rfl) (upd_ne (by rintro rfl; exact hm (List.mem_of_getElem? h)))
/-- a list outside of the world comes into it -/
theorem come_in {vs : List V} {ds : List D} {Q : VK} (mu : Bool) (s : SRel K W H S) (hp : H p = some (.lst vs)) (hm : p ∉ W.m) (hf : ¬ W.fz p) (hr : ¬ W.rs p) (r : DRels K W H ds vs) (h : PostO K W H (some (newL mu ds S)) Q) : Q (.ref p) H := by
  cases mu with
  | true =>
    have x : Ext0 K W H (W.add p) H := ⟨fun n a q => by
      show (W.m ++ [p])[n]? = _
      rw [List.getElem?_append_left (List.getElem?_eq_some_iff.mp q).1]; exact q, fun _ q => q, fun _ _ q => q, fun _ _ _ q => q, fun _ _ _ q => q⟩
    refine h (W.add p) H (.ref p) ⟨x, fun a q => ⟨q, rfl⟩⟩ ?_ (drel_add s)
    have at' : ∀ (n : Nat) (a : Addr), (W.m ++ [p])[n]? = some a → (n < W.m.length ∧ W.m[n]? = some a) ∨ (n = W.m.length ∧ a = p) := fun n a q => by
      by_cases c : n < W.m.length
      · rw [List.getElem?_append_left c] at q; exact .inl ⟨c, q⟩
      · rw [List.getElem?_append_right (by omega)] at q
        cases e : n - W.m.length with
        | zero => rw [e] at q; exact .inr ⟨by omega, by simpa using q.symm⟩
        | succ k => rw [e] at q; simp at q
    refine ⟨s.tab, by show (W.m ++ [p]).length = _; simp [s.len], ?_, ?_, s.fzd, ?_, ?_, ?_⟩
    · show (W.m ++ [p]).Nodup
      rw [List.nodup_append]
      refine ⟨s.inj, by simp, fun a ha b hb => ?_⟩
      have hb' : b = p := by simpa using hb
      rw [hb']; rintro rfl; exact hm ha
    · intro n a q
      rcases at' n a q with ⟨_, q⟩ | ⟨_, rfl⟩
      · exact s.dom n a q
      · rw [hp]; trivial
    · intro n a q f
      rcases at' n a q with ⟨_, q⟩ | ⟨_, rfl⟩
      · exact s.dis n a q f
      · exact hf f
    · intro a q
      refine ⟨(s.rsd a q).1, fun z => ?_, (s.rsd a q).2.2⟩
      rcases List.mem_append.mp (show a ∈ W.m ++ [p] from z) with z | z
      · exact (s.rsd a q).2.1 z
      · have : a = p := by simpa using z
        subst this; exact hr q
    · intro n a ob q q'
      rcases at' n a q with ⟨c, q⟩ | ⟨e, rfl⟩
      · rw [List.getElem?_append_left (by rw [← s.len]; exact c)] at q'
        exact (s.obj n a ob q q').ext x rfl
      · subst e
        rw [s.len, List.getElem?_append_right (Nat.le_refl _)] at q'
        simp at q'; subst q'
        exact ⟨vs, hp, r.ext0 x⟩
  | false =>
    have x : Ext0 K W H (W.frz p) H := ⟨fun _ _ q => q, fun _ q => .inl q, fun _ _ q => q, fun _ _ _ q => q, fun _ _ _ q => q⟩
    refine h (W.frz p) H (.ref p) ⟨x, fun a q => ⟨q, rfl⟩⟩ ?_ ?_
    · refine ⟨s.tab, s.len, s.inj, s.dom, fun a q => q.elim (s.fzd a) (by rintro rfl; exact ⟨_, hp, (fun ps q => by cases q), (fun f q => by cases q)⟩), fun n a q f => ?_, fun a q => ⟨(s.rsd a q).1, (s.rsd a q).2.1, fun f => ?_⟩, fun n a ob q q' => (s.obj n a ob q q').ext x rfl⟩
      · rcases f with f | rfl
        · exact s.dis n a q f
        · exact hm (List.mem_of_getElem? q)
      · rcases f with f | rfl
        · exact (s.rsd a q).2.2 f
        · exact hr q
    · unfold DRel
      exact ⟨p, vs, rfl, ⟨.inr rfl, hp⟩, r.ext0 x⟩
end res
section comp
variable {X : Cx} {Wx : WX} {elt tg iter : Expr} {ifs : List Expr} {scope : Scope} {own : List (Str × Nat)} {pos : Pos} {fi : FI} {g : FG} {c : FT} {f : FE} {t : TG}
/-- the ifs of a clause -/
structure PFTs (X : Cx) (ifs : List Expr) (c : FT) : Prop where
  run : ∀ (W : Wd) (H : Hp) (σ : St) (en : En) (S : So) (Q : Bool → Hp → Prop), ERel X.K W H en σ → SRel X.K W H S → Post X.K EqB W H (c en S) Q (Wish F0 σ) →
    ∀ (pins : List (Addr × Obj)) (s : Shared), Inv X pins σ H s → wpAny (model X.prog X.w) X.A (forIn ifs true fun c r => if r = true then do let ok ← isTrue c X.env (eval c X.env); pure (ForInStep.yield ok) else pure (ForInStep.yield r)) (TP X pins σ Q) X.xe s
def fYes : FT := fun _ S => .ok true S
theorem pfts_nil : PFTs X [] fYes := ⟨fun W H σ en S Q he hs hp pins s I => pts_nil.run pins s σ H Q I (Post.here hp hs rfl)⟩
theorem pfts_one {e : Expr} {c : FT} (h : PFT X F0 e c) : PFTs X [e] c := ⟨fun W H σ en S Q he hs hp pins s I => (pts_one pt_w).run pins s σ H Q I (h.run W H σ en S Q he hs hp)⟩
/-- the readings of a turn's parts, the same whatever the block's context is -/
def tyE (K : PySem.W.Frag) (f : FE) : TE := fun σ H Q => ∃ W en S, ERel K W H en σ ∧ SRel K W H S ∧ Post K DRel W H (f en S) Q (Wish F0 σ)
def tyT (K : PySem.W.Frag) (f : FT) : TT := fun σ H Q => ∃ W en S, ERel K W H en σ ∧ SRel K W H S ∧ Post K EqB W H (f en S) Q (Wish F0 σ)
theorem pe_ty {X : Cx} {e : Expr} (h : PFE X F0 e f) : PE X e (tyE X.K f) := ⟨fun pins s σ H Q I ⟨W, en, S, he, hs, hp⟩ => h.run W H σ en S Q he hs hp pins s I⟩
theorem pts_ty {X : Cx} {ifs : List Expr} (h : PFTs X ifs c) : PTs X ifs (tyT X.K c) := ⟨fun pins s σ H Q I ⟨W, en, S, he, hs, hp⟩ => h.run W H σ en S Q he hs hp pins s I⟩
/-- one turn -/
theorem lc_turn {K : PySem.W.Frag} {W : Wd} {H : Hp} {σ2 : St} {en1 : En} {S1 SF : So} {p : Addr} {us : List V} {acc accF : List D} {kont : List D → So → Rs (List D)} {Nx : Hp → Prop}
    (he : ERel K W H en1 σ2) (hs : SRel K W H S1) (hp : H p = some (.lst us)) (hm : p ∉ W.m) (hf : ¬ W.fz p) (hr : ¬ W.rs p) (ra : DRels K W H acc us)
    (h : ((c en1 S1).bind fun k S2 => if k = true then (f en1 S2).bind fun y S3 => if acc.length < sizeLine then kont (acc ++ [y]) S3 else .no else kont acc S2) = .ok accF SF)
    (nx : ∀ acc' us' W' H' S', Ext K W H W' H' → H' p = some (.lst us') → p ∉ W'.m → ¬ W'.fz p → ¬ W'.rs p → SRel K W' H' S' → DRels K W' H' acc' us' → kont acc' S' = .ok accF SF → Nx H') :
    tyT K c σ2 H fun b H3 => if b = true then tyE K f σ2 H3 fun y H4 => ∃ ac, H4 p = some (.lst ac) ∧ ac.length < sizeLine ∧ Nx (upd H4 p (.lst (ac ++ [y]))) else Nx H3 := by
  have hsr := hs.res hp hm hf
  have xr : Ext0 K W H (W.res p) H := ext0_res rfl rfl rfl
  -- from the world with p reserved back to one without
  have back : ∀ {W1 : Wd} {H1 : Hp} {S' : So}, Ext K (W.res p) H W1 H1 → SRel K W1 H1 S' → H1 p = some (.lst us) ∧ p ∉ W1.m ∧ ¬ W1.fz p ∧ Ext K W H (W1.unr p) H1 := fun {W1 H1 S'} e s => by
    obtain ⟨h1, h2⟩ := e.rs p (.inr rfl)
    refine ⟨by rw [h2]; exact hp, (s.rsd p h1).2.1, (s.rsd p h1).2.2, ⟨⟨e.m, e.fz, e.tup, e.lst, e.scr⟩, fun a q => ?_⟩⟩
    obtain ⟨q1, q2⟩ := e.rs a (.inl q)
    exact ⟨⟨q1, by rintro rfl; exact hr q⟩, q2⟩
  refine ⟨W.res p, en1, S1, he.ext0 xr, hsr, ?_⟩
  cases q : c en1 S1 with
  | no => rw [q] at h; cases h
  | ex C S2 => rw [q] at h; cases h
  | ok k S2 =>
    rw [q] at h
    intro W1 H1 b e1 s1 r1
    cases r1
    obtain ⟨p1, m1, f1, x1⟩ := back e1 s1
    cases k with
    | false => exact iteF (nx acc us (W1.unr p) H1 S2 x1 p1 m1 f1 (fun z => z.2 rfl) s1.unr (ra.ext x1) h)
    | true =>
      refine iteT ⟨W1, en1, S2, (he.ext0 xr).ext e1, s1, ?_⟩
      simp only [Rs.bind, if_true] at h
      cases q2 : f en1 S2 with
      | no => rw [q2] at h; cases h
      | ex C S3 => rw [q2] at h; cases h
      | ok y S3 =>
        rw [q2] at h
        intro W2 H2 v e2 s2 r2
        obtain ⟨p2, m2, f2, x2⟩ := back (e1.trans e2) s2
        simp only [Rs.bind] at h
        split at h
        · rename_i hl
          refine ⟨us, p2, by rw [← ra.length]; exact hl, ?_⟩
          have x3 : Ext K W H (W2.unr p) (upd H2 p (.lst (us ++ [v]))) := ⟨x2.toExt0.trans (ext0_out (W' := W2.unr p) (W := W2.unr p) p2 f2 rfl rfl), fun a z => ⟨(x2.rs a z).1, (upd_ne (x2.rs a z).1.2).trans (x2.rs a z).2⟩⟩
          refine nx (acc ++ [y]) (us ++ [v]) (W2.unr p) _ S3 x3 upd_same m2 f2 (fun z => z.2 rfl) (s2.out p2 m2 f2) ?_ h
          exact (ra.ext x3).append (DRels.cons (r2.ext0 (ext0_out (W' := W2.unr p) p2 f2 rfl rfl)) DRels.nil)
        · cases h
/-- the comprehension's reading -/
theorem lc_run (m : Nat) (mu : Bool) {vs : List Nat} (hg : OwnG X.K t vs g) (hw : ∀ σ : St, wipe (wipe σ vs) vs = wipe σ vs)
    (hi : PFI X Wx tg iter fi) {W : Wd} {H : Hp} {σ : St} {en : En} {S : So} {Q : VK} (he : ERel X.K W H en σ) (hs : SRel X.K W H S) (hp : Post X.K DRel W H (fLc m mu vs fi g c f en S) Q (Wish Wx σ)) :
    tLc (wI X tg iter) t (tyT X.K c) (tyE X.K f) vs σ H Q := by
  refine hi.run W H σ en S _ he hs (Post.bind hp fun it S1 W1 H1 J e1 s1 r1 p1 => ?_)
  intro p hp0
  have hn1 : p ∉ W1.m := fun z => by
    obtain ⟨n, hn⟩ := List.getElem?_of_mem z
    exact s1.ne hp0 hn rfl
  have hz1 : ¬ W1.fz p := fun z => s1.fzne hp0 z rfl
  have hr1 : ¬ W1.rs p := fun z => s1.rsne hp0 z rfl
  have fin : ∀ {W2 : Wd} {H2 : Hp} {S2 : So} {acc : List D} {us : List V}, Ext X.K W1 H1 W2 H2 → H2 p = some (.lst us) → p ∉ W2.m → ¬ W2.fz p → ¬ W2.rs p → SRel X.K W2 H2 S2 → DRels X.K W2 H2 acc us →
      Post X.K DRel W1 H1 (ofO (some (newL mu acc S2))) Q (Wish Wx σ) → Q (.ref p) H2 := fun x a1 a2 a3 a4 a5 a6 a7 => come_in mu a5 a1 a2 a3 a4 a6 (postO (Post.later a7 x))
  have item : ∀ {W2 : Wd} {H2 H3 : Hp} {S2 : So} {us : List V} {acc : List D} {d : D} {x : V} {e4 : En} {Q' : St → Hp → Prop}, Ext X.K W1 H1 W2 H2 → H2 p = some (.lst us) → p ∉ W2.m → ¬ W2.fz p → ¬ W2.rs p → Ext X.K (W2.res p) H2 (W2.res p) H3 → SRel X.K (W2.res p) H3 S2 → DRel X.K (W2.res p) H3 d x →
      DRels X.K W2 H2 acc us → g d (wipeD en vs) S2 = some (e4, S2) → (∀ σ2, wipe σ2 vs = wipe σ vs → ERel X.K W2 H3 e4 σ2 → Ext X.K W2 H2 W2 H3 → Q' σ2 H3) → t x (wipe σ vs) H3 Q' := by
    intro W2 H2 H3 S2 us acc d x e4 Q' x2 a1 a2 a3 a4 x3 s3 r3 ra q k
    have x3' : Ext X.K W2 H2 W2 H3 := ⟨⟨x3.m, x3.fz, x3.tup, x3.lst, x3.scr⟩, fun a z => ⟨z, (x3.rs a (.inl z)).2⟩⟩
    refine hg.run W2 H3 (wipe σ vs) (wipeD en vs) S2 d x e4 S2 Q' (wipe_rel (((he.ext e1).ext x2).ext x3') vs) (r3.ext0 (ext0_res (W := W2.res p) (W' := W2) rfl rfl rfl)) q fun σ2 h1 h2 => k σ2 (h1.trans (hw σ)) h2 x3'
  cases it with
  | items ds =>
    -- the rest's result is the whole's
    have tot : ∃ accF SF, lcL g c f (wipeD en vs) ds [] S1 = .ok accF SF ∧ Post X.K DRel W1 H1 (ofO (some (newL mu accF SF))) Q (Wish Wx σ) := by
      simp only [lcT] at p1
      cases q : lcL g c f (wipeD en vs) ds [] S1 with
      | ok a b => rw [q] at p1; exact ⟨a, b, rfl, p1⟩
      | ex a b => rw [q] at p1; exact p1.elim
      | no => rw [q] at p1; exact p1.elim
    obtain ⟨accF, SF, hF, pF⟩ := tot
    refine ⟨fun i k H2 => ∃ W2 S2 us acc, k = ds.length - i ∧ i ≤ ds.length ∧ Ext X.K W1 H1 W2 H2 ∧ H2 p = some (.lst us) ∧ p ∉ W2.m ∧ ¬ W2.fz p ∧ ¬ W2.rs p ∧ SRel X.K W2 H2 S2 ∧ DRels X.K W2 H2 acc us ∧ lcL g c f (wipeD en vs) (ds.drop i) acc S2 = .ok accF SF, ⟨_, W1, S1, [], [], rfl, Nat.zero_le _, ext_more s1 hp0, upd_same, hn1, hz1, hr1, s1.more hp0, DRels.nil, hF⟩, ?_⟩
    rintro i k H2 ⟨W2, S2, us, acc, hk, hi', x2, a1, a2, a3, a4, s2, ra, hL⟩
    have hr := r1 (W2.res p) H2 S2 (x2.trans ext_res) (s2.res a1 a2 a3) i
    by_cases cc : i < ds.length
    · rw [List.drop_eq_getElem_cons cc] at hL
      have ed : ItD.at S2 i (.items ds) = some (some ds[i]) := by simp only [ItD.at, List.getElem?_eq_getElem cc]
      rw [ed] at hr
      obtain ⟨hgo, hy⟩ := hr
      refine .inr ⟨hgo, fun H' => ∃ W2 S2 us acc, Ext X.K W1 H1 W2 H' ∧ H' p = some (.lst us) ∧ p ∉ W2.m ∧ ¬ W2.fz p ∧ ¬ W2.rs p ∧ SRel X.K W2 H' S2 ∧ DRels X.K W2 H' acc us ∧ lcL g c f (wipeD en vs) (ds.drop (i + 1)) acc S2 = .ok accF SF, ?_, ?_⟩
      · rintro H' ⟨W3, S3, us3, acc3, q⟩
        exact ⟨ds.length - (i + 1), by omega, W3, S3, us3, acc3, rfl, cc, q⟩
      · intro x H3 hx
        obtain ⟨x3, s3, r3⟩ := hy x H3 hx
        unfold lcL at hL
        cases q : g ds[i] (wipeD en vs) S2 with
        | none => rw [q] at hL; cases hL
        | some pr =>
          obtain ⟨e4, S4⟩ := pr
          have es := hg.keep _ _ _ _ _ q
          subst es
          rw [q] at hL
          refine item x2 a1 a2 a3 a4 x3 s3 r3 ra q fun σ2 hw2 he2 x3' => ?_
          refine ⟨hw2, lc_turn (K := X.K) (kont := fun a s => lcL g c f (wipeD en vs) (ds.drop (i + 1)) a s) he2 s3.ofres (((x3.rs p (.inr rfl)).2).trans a1) a2 a3 a4 (ra.ext x3') hL fun acc' us' W' H' S' y1 y2 y3 y4 y5 y6 y7 y8 => ⟨W', S', us', acc', (x2.trans x3').trans y1, y2, y3, y4, y5, y6, y7, y8⟩⟩
    · have ei : i = ds.length := by omega
      subst ei
      have ed : ItD.at S2 ds.length (.items ds) = some none := by simp only [ItD.at, List.getElem?_eq_none (Nat.le_refl _)]
      rw [ed] at hr
      rw [List.drop_length] at hL
      simp only [lcL] at hL
      cases hL
      exact .inl ⟨hr, fin x2 a1 a2 a3 a4 s2 ra pF⟩
  | live n =>
    have tot : ∃ accF SF, lcR g c f (wipeD en vs) n m 0 [] S1 = .ok accF SF ∧ Post X.K DRel W1 H1 (ofO (some (newL mu accF SF))) Q (Wish Wx σ) := by
      simp only [lcT] at p1
      cases q : lcR g c f (wipeD en vs) n m 0 [] S1 with
      | ok a b => rw [q] at p1; exact ⟨a, b, rfl, p1⟩
      | ex a b => rw [q] at p1; exact p1.elim
      | no => rw [q] at p1; exact p1.elim
    obtain ⟨accF, SF, hF, pF⟩ := tot
    refine ⟨fun i k H2 => ∃ W2 S2 us acc, Ext X.K W1 H1 W2 H2 ∧ H2 p = some (.lst us) ∧ p ∉ W2.m ∧ ¬ W2.fz p ∧ ¬ W2.rs p ∧ SRel X.K W2 H2 S2 ∧ DRels X.K W2 H2 acc us ∧ lcR g c f (wipeD en vs) n k i acc S2 = .ok accF SF, ⟨m, W1, S1, [], [], ext_more s1 hp0, upd_same, hn1, hz1, hr1, s1.more hp0, DRels.nil, hF⟩, ?_⟩
    rintro i k H2 ⟨W2, S2, us, acc, x2, a1, a2, a3, a4, s2, ra, hL⟩
    have hr := r1 (W2.res p) H2 S2 (x2.trans ext_res) (s2.res a1 a2 a3) i
    cases k with
    | zero => simp only [lcR] at hL; cases hL
    | succ k =>
      unfold lcR at hL
      split at hL
      · rename_i ds hn
        cases cc : ds[i]? with
        | none =>
          have ed : ItD.at S2 i (.live n) = some none := by simp only [ItD.at, hn, cc]
          rw [ed] at hr
          rw [cc] at hL
          cases hL
          exact .inl ⟨hr, fin x2 a1 a2 a3 a4 s2 ra pF⟩
        | some d =>
          have ed : ItD.at S2 i (.live n) = some (some d) := by simp only [ItD.at, hn, cc]
          rw [ed] at hr
          rw [cc] at hL
          obtain ⟨hgo, hy⟩ := hr
          refine .inr ⟨hgo, fun H' => ∃ W2 S2 us acc, Ext X.K W1 H1 W2 H' ∧ H' p = some (.lst us) ∧ p ∉ W2.m ∧ ¬ W2.fz p ∧ ¬ W2.rs p ∧ SRel X.K W2 H' S2 ∧ DRels X.K W2 H' acc us ∧ lcR g c f (wipeD en vs) n k (i + 1) acc S2 = .ok accF SF, fun H' q => ⟨k, Nat.lt_succ_self k, q⟩, ?_⟩
          intro x H3 hx
          obtain ⟨x3, s3, r3⟩ := hy x H3 hx
          cases q : g d (wipeD en vs) S2 with
          | none => simp only [q] at hL; cases hL
          | some pr =>
            obtain ⟨e4, S4⟩ := pr
            have es := hg.keep _ _ _ _ _ q
            subst es
            simp only [q] at hL
            refine item x2 a1 a2 a3 a4 x3 s3 r3 ra q fun σ2 hw2 he2 x3' => ?_
            refine ⟨hw2, lc_turn (K := X.K) (kont := fun a s => lcR g c f (wipeD en vs) n k (i + 1) a s) he2 s3.ofres (((x3.rs p (.inr rfl)).2).trans a1) a2 a3 a4 (ra.ext x3') hL fun acc' us' W' H' S' y1 y2 y3 y4 y5 y6 y7 y8 => ⟨W', S', us', acc', (x2.trans x3').trans y1, y2, y3, y4, y5, y6, y7, y8⟩⟩
      · cases hL
theorem wipe_set {σ : St} {i : Nat} {v : Option V} : wipe (σ.set i v) [i] = wipe σ [i] := by
  show (σ.set i v).set i none = σ.set i none
  rw [List.set_set]
theorem wipe_wipe1 (i : Nat) (σ : St) : wipe (wipe σ [i]) [i] = wipe σ [i] := by
  show ((σ.set i none).set i none) = σ.set i none
  rw [List.set_set]
theorem own_name {K : PySem.W.Frag} (i : Nat) : OwnG K (gName i) [i] (gtName i) := by
  refine ⟨fun d en S e1 S1 h => ?_, fun W H σ en S d v e1 S1 Q he r h k => ?_⟩
  · simp only [gtName] at h; cases h; rfl
  · simp only [gtName] at h; cases h
    exact k _ wipe_set (he.set r)
/-- a pair of names -/
def gtPair (i j : Nat) : FG := fun d en S => match d with
  | .tup [a, b] => some ((en.set i (some a)).set j (some b), S)
  | _ => none
theorem wipe_two {σ : St} {i j : Nat} {v w : Option V} : wipe ((σ.set i v).set j w) [i, j] = wipe σ [i, j] := by
  show ((((σ.set i v).set j w).set j none).set i none) = ((σ.set j none).set i none)
  rw [List.set_set]
  by_cases h : i = j
  · subst h; simp [List.set_set]
  · rw [List.set_comm _ _ h, List.set_set]
theorem wipe_wipe2 (i j : Nat) (σ : St) : wipe (wipe σ [i, j]) [i, j] = wipe σ [i, j] := by
  show (((σ.set j none).set i none).set j none).set i none = (σ.set j none).set i none
  by_cases h : i = j
  · subst h; simp [List.set_set]
  · rw [List.set_comm (i := i) (j := j) none none h, List.set_set, List.set_set]
theorem own_pair {K : PySem.W.Frag} (i j : Nat) : OwnG K (gTup K 2 (gCons (gName i) (gCons (gName j) gNil))) [i, j] (gtPair i j) := by
  refine ⟨fun d en S e1 S1 h => ?_, fun W H σ en S d v e1 S1 Q he r h k => ?_⟩
  · unfold gtPair at h; split at h <;> cases h; rfl
  · unfold gtPair at h
    split at h
    · cases h
      unfold DRel at r
      obtain ⟨a, vs, rfl, h1, h2⟩ := r
      obtain ⟨v1, v2, rfl, h3, h4⟩ := drels2 h2
      exact ⟨a, _, rfl, h1, rfl, v1, _, rfl, v2, _, rfl, rfl, k _ wipe_two ((he.set h3).set h4)⟩
    · cases h
/-- [elt for tg in iter if ..] -/
theorem pf_lc (m : Nat) (mu : Bool) (own : List (Str × Nat)) (hc : X.calm = true) (hN : X.N.Nodup) (hg : OwnG X.K t (own.map (·.2)) g) (hw : ∀ σ : St, wipe (wipe σ (own.map (·.2))) (own.map (·.2)) = wipe σ (own.map (·.2))) (hi : PFI X Wx tg iter fi) (ok : BlkOk X.N X.env.scope scope own)
    (hgp : ∀ (s : Shared) (H : Hp) (C : Addr) (cl : List (Str × Addr)) (fp : List Addr), PG (X.blk s H scope (compEnvC scope cl C X.env) fp) tg t)
    (ht : ∀ (s : Shared) (H : Hp) (C : Addr) (cl : List (Str × Addr)) (fp : List Addr), PFTs (X.blk s H scope (compEnvC scope cl C X.env) fp) ifs c)
    (he : ∀ (s : Shared) (H : Hp) (C : Addr) (cl : List (Str × Addr)) (fp : List Addr), PFE (X.blk s H scope (compEnvC scope cl C X.env) fp) F0 elt f) (hs : ∀ x, foldedSetIterable iter X.env x = pure x := by intro _; rfl) :
    PFE X Wx (.ListComp elt [⟨tg, iter, ifs, 0⟩] scope pos) (fLc m mu (own.map (·.2)) fi g c f) :=
  ⟨fun W H σ en S Q he' hs' hp => PE_w (pe_lc hc hN pi_w ok hgp (fun s H C cl fp => pts_ty (ht s H C cl fp)) (fun s H C cl fp => pe_ty (he s H C cl fp)) hs) (lc_run m mu hg hw hi he' hs' hp)⟩
/-- y = [..] -/
theorem pfs_lc (m : Nat) (mu : Bool) (own : List (Str × Nat)) {i : Nat} {y : Str} {py spos : Pos} (hc : X.calm = true) (hN : X.N.Nodup) (hy : X.N[i]? = some y) (hyl : X.env.scope.names.lookup y = some .local)
    (hsw : swapsWith (.ListComp elt [⟨tg, iter, ifs, 0⟩] scope pos) (some (.Name y py)) spos.line X.env = pure true) (hg : OwnG X.K t (own.map (·.2)) g) (hw : ∀ σ : St, wipe (wipe σ (own.map (·.2))) (own.map (·.2)) = wipe σ (own.map (·.2))) (hi : PFI X Wx tg iter fi) (ok : BlkOk X.N X.env.scope scope own)
    (hgp : ∀ (s : Shared) (H : Hp) (C : Addr) (cl : List (Str × Addr)) (fp : List Addr), PG (X.blk s H scope (compEnvC scope cl C X.env) fp) tg t)
    (ht : ∀ (s : Shared) (H : Hp) (C : Addr) (cl : List (Str × Addr)) (fp : List Addr), PFTs (X.blk s H scope (compEnvC scope cl C X.env) fp) ifs c)
    (he : ∀ (s : Shared) (H : Hp) (C : Addr) (cl : List (Str × Addr)) (fp : List Addr), PFE (X.blk s H scope (compEnvC scope cl C X.env) fp) F0 elt f) (hs : ∀ x, foldedSetIterable iter X.env x = pure x := by intro _; rfl) :
    PFS X Wx (.Assign [.Name y py] (.ListComp elt [⟨tg, iter, ifs, 0⟩] scope pos) spos) (fAsg (fLc m mu (own.map (·.2)) fi g c f) (gtName i)) := by
  refine ⟨fun W H σ en S Z he' hs' hp => PS_w (ps_setLc (tt := tyT X.K c) (te := tyE X.K f) hc hN hy hyl hsw pi_w ok hgp (fun s H C cl fp => pts_ty (ht s H C cl fp)) (fun s H C cl fp => pe_ty (he s H C cl fp)) hs) ?_⟩
  refine lc_run m mu hg hw hi he' hs' (post_then he' hp fun d S1 W1 H1 x e1 s1 r1 p1 => ?_)
  exact p1 W1 H1 _ Ext.refl s1 ((he'.ext e1).set r1)
end comp
end PF

namespace PF
open PySem L2
variable [Tab]
/-! ### what is closed: no number beyond k -/
mutual
def clD (k : Nat) : D → Prop
  | .tup ds => clDs k ds
  | .lst ds => clDs k ds
  | .ref n => n < k
  | _ => True
def clDs (k : Nat) : List D → Prop
  | [] => True
  | d :: ds => clD k d ∧ clDs k ds
end
def clKs (k : Nat) : List (Key × D) → Prop
  | [] => True
  | (_, d) :: ds => clD k d ∧ clKs k ds
def clFs (k : Nat) : List (Str × D) → Prop
  | [] => True
  | (_, d) :: ds => clD k d ∧ clFs k ds
def clO (k : Nat) : O → Prop
  | .lst ds => clDs k ds
  | .dic kvs => clKs k kvs
  | .ins _ fs => clFs k fs
  | .dead => True
def clS (S : So) : Prop := ∀ o ∈ S, clO S.length o
section clo
variable {K : PySem.W.Frag} {W : Wd} {H : Hp} {S : So} {k : Nat}
mutual
theorem DRel.clo : ∀ {d : D} {v : V}, DRel K W H d v → clD W.m.length d
  | .non, _, _ => trivial
  | .bl _, _, _ => trivial
  | .int _, _, _ => trivial
  | .str _, _, _ => trivial
  | .scr _, _, _ => trivial
  | .tup ds, v, h => by unfold DRel at h; obtain ⟨a, vs, _, _, h⟩ := h; unfold clD; exact DRels.clo h
  | .lst ds, v, h => by unfold DRel at h; obtain ⟨a, vs, _, _, h⟩ := h; unfold clD; exact DRels.clo h
  | .ref n, v, h => by unfold DRel at h; obtain ⟨a, _, h⟩ := h; unfold clD; exact (List.getElem?_eq_some_iff.mp h).1
theorem DRels.clo : ∀ {ds : List D} {vs : List V}, DRels K W H ds vs → clDs W.m.length ds
  | [], _, _ => trivial
  | d :: ds, vs, h => by unfold DRels at h; obtain ⟨v, r, _, h1, h2⟩ := h; unfold clDs; exact ⟨DRel.clo h1, DRels.clo h2⟩
end
theorem KRel.clo : ∀ {ds : List (Key × D)} {vs : List (Key × V)}, KRel K W H ds vs → clKs W.m.length ds
  | [], _, _ => trivial
  | (k, d) :: ds, vs, h => by unfold KRel at h; obtain ⟨v, r, _, h1, h2⟩ := h; exact ⟨DRel.clo h1, KRel.clo h2⟩
theorem FRel.clo : ∀ {ds : List (Str × D)} {vs : List (Str × V)}, FRel K W H ds vs → clFs W.m.length ds
  | [], _, _ => trivial
  | (k, d) :: ds, vs, h => by unfold FRel at h; obtain ⟨v, r, _, h1, h2⟩ := h; exact ⟨DRel.clo h1, FRel.clo h2⟩
theorem SRel.clo (s : SRel K W H S) : clS S := by
  intro o ho
  obtain ⟨n, hn⟩ := List.getElem?_of_mem ho
  obtain ⟨a, h1, h2⟩ := s.at hn
  rw [← s.len]
  cases o with
  | lst ds => obtain ⟨vs, _, h⟩ := h2; exact h.clo
  | dic ds => obtain ⟨vs, _, h⟩ := h2; exact h.clo
  | ins C fs => obtain ⟨dx, vs, _, h⟩ := h2; exact h.clo
  | dead => trivial
/-- the first k objects stay, lists behind them are frozen -/
def Wd.cut (W : Wd) (k : Nat) : Wd := ⟨W.m.take k, fun a => W.fz a ∨ ∃ n : Nat, k ≤ n ∧ W.m[n]? = some a, W.rs⟩
mutual
theorem DRel.cut : ∀ {d : D} {v : V}, DRel K W H d v → clD k d → DRel K (W.cut k) H d v
  | .non, _, h, _ => h
  | .bl _, _, h, _ => h
  | .int _, _, h, _ => h
  | .str _, _, h, _ => h
  | .scr _, _, h, _ => by unfold DRel at h ⊢; obtain ⟨a, h1, h2⟩ := h; exact ⟨a, h1, h2.imp id (Or.imp id fun q => ⟨.inl q.1, q.2⟩)⟩
  | .tup ds, v, h, c => by
    unfold DRel at h ⊢; obtain ⟨a, vs, h1, h2, h3⟩ := h
    unfold clD at c
    exact ⟨a, vs, h1, h2, DRels.cut h3 c⟩
  | .lst ds, v, h, c => by
    unfold DRel at h ⊢; obtain ⟨a, vs, h1, h2, h3⟩ := h
    unfold clD at c
    exact ⟨a, vs, h1, ⟨.inl h2.1, h2.2⟩, DRels.cut h3 c⟩
  | .ref n, v, h, c => by
    unfold DRel at h ⊢; obtain ⟨a, h1, h2⟩ := h
    unfold clD at c
    exact ⟨a, h1, by show (W.m.take k)[n]? = _; rw [List.getElem?_take, if_pos c]; exact h2⟩
theorem DRels.cut : ∀ {ds : List D} {vs : List V}, DRels K W H ds vs → clDs k ds → DRels K (W.cut k) H ds vs
  | [], _, h, _ => h
  | d :: ds, vs, h, c => by
    unfold DRels at h ⊢; obtain ⟨v, r, h1, h2, h3⟩ := h
    unfold clDs at c
    exact ⟨v, r, h1, DRel.cut h2 c.1, DRels.cut h3 c.2⟩
end
theorem KRel.cut : ∀ {ds : List (Key × D)} {vs : List (Key × V)}, KRel K W H ds vs → clKs k ds → KRel K (W.cut k) H ds vs
  | [], _, h, _ => h
  | (y, d) :: ds, vs, h, c => by
    unfold KRel at h ⊢; obtain ⟨v, r, h1, h2, h3⟩ := h
    exact ⟨v, r, h1, DRel.cut h2 c.1, KRel.cut h3 c.2⟩
theorem FRel.cut : ∀ {ds : List (Str × D)} {vs : List (Str × V)}, FRel K W H ds vs → clFs k ds → FRel K (W.cut k) H ds vs
  | [], _, h, _ => h
  | (y, d) :: ds, vs, h, c => by
    unfold FRel at h ⊢; obtain ⟨v, r, h1, h2, h3⟩ := h
    exact ⟨v, r, h1, DRel.cut h2 c.1, FRel.cut h3 c.2⟩
theorem SRel.cut (s : SRel K W H S) (h : ∀ o ∈ S.take k, clO k o) : SRel K (W.cut k) H (S.take k) where
  tab := s.tab
  len := by show (W.m.take k).length = _; simp [s.len]
  inj := s.inj.sublist (List.take_sublist _ _)
  dom := fun n a q => by
    have q : (W.m.take k)[n]? = some a := q
    rw [List.getElem?_take] at q
    split at q
    · exact s.dom n a q
    · cases q
  fzd := fun a q => by
    rcases q with q | ⟨n, _, q⟩
    · exact s.fzd a q
    · exact mu_nt (s.dom n a q)
  dis := fun n a q f => by
    have q : (W.m.take k)[n]? = some a := q
    rw [List.getElem?_take] at q
    split at q
    · rcases f with f | ⟨n', hn', f⟩
      · exact s.dis n a q f
      · have := (List.getElem_inj s.inj).mp ((List.getElem?_eq_some_iff.mp q).2.trans (List.getElem?_eq_some_iff.mp f).2.symm)
        omega
    · cases q
  rsd := fun a q => ⟨(s.rsd a q).1, fun z => (s.rsd a q).2.1 (List.mem_of_mem_take z), fun f => by
    rcases f with f | ⟨n, _, f⟩
    · exact (s.rsd a q).2.2 f
    · exact (s.rsd a q).2.1 (List.mem_of_getElem? f)⟩
  obj := fun n a o q q' => by
    have q : (W.m.take k)[n]? = some a := q
    have ho := h o (List.mem_of_getElem? q')
    rw [List.getElem?_take] at q q'
    split at q
    · rename_i hn
      rw [if_pos hn] at q'
      have r := s.obj n a o q q'
      cases o with
      | lst ds => obtain ⟨vs, h1, h2⟩ := r; exact ⟨vs, h1, h2.cut ho⟩
      | dic ds => obtain ⟨vs, h1, h2⟩ := r; exact ⟨vs, h1, h2.cut ho⟩
      | ins C fs => obtain ⟨dx, vs, h1, h2⟩ := r; exact ⟨dx, vs, h1, h2.cut ho⟩
      | dead => trivial
    · cases q
mutual
/-- what comes back, new lists frozen -/
inductive Cv (S : So) (k : Nat) : D → D → Prop
  | non : Cv S k .non .non
  | bl (b : Bool) : Cv S k (.bl b) (.bl b)
  | int (i : Int) : Cv S k (.int i) (.int i)
  | str (x : Str) : Cv S k (.str x) (.str x)
  | scr (x : List Int) : Cv S k (.scr x) (.scr x)
  | tup {ds es : List D} : Cvs S k ds es → Cv S k (.tup ds) (.tup es)
  | lst {ds es : List D} : Cvs S k ds es → Cv S k (.lst ds) (.lst es)
  | old {n : Nat} : n < k → Cv S k (.ref n) (.ref n)
  | new {n : Nat} {ds es : List D} : k ≤ n → S[n]? = some (.lst ds) → Cvs S k ds es → Cv S k (.ref n) (.lst es)
inductive Cvs (S : So) (k : Nat) : List D → List D → Prop
  | nil : Cvs S k [] []
  | cons {d e : D} {ds es : List D} : Cv S k d e → Cvs S k ds es → Cvs S k (d :: ds) (e :: es)
end
mutual
theorem Cv.same : ∀ {d : D}, clD k d → Cv S k d d
  | .non, _ => .non
  | .bl b, _ => .bl b
  | .int b, _ => .int b
  | .str b, _ => .str b
  | .scr b, _ => .scr b
  | .tup ds, h => by unfold clD at h; exact .tup (Cvs.same h)
  | .lst ds, h => by unfold clD at h; exact .lst (Cvs.same h)
  | .ref n, h => by unfold clD at h; exact .old h
theorem Cvs.same : ∀ {ds : List D}, clDs k ds → Cvs S k ds ds
  | [], _ => .nil
  | d :: ds, h => by unfold clDs at h; exact .cons (Cv.same h.1) (Cvs.same h.2)
end
theorem cv_rel (s : SRel K W H S) {d e : D} (h : Cv S k d e) : ∀ {v : V}, DRel K W H d v → DRel K (W.cut k) H e v := by
  refine Cv.rec (motive_1 := fun d e _ => ∀ {v : V}, DRel K W H d v → DRel K (W.cut k) H e v) (motive_2 := fun ds es _ => ∀ {vs : List V}, DRels K W H ds vs → DRels K (W.cut k) H es vs) ?_ ?_ ?_ ?_ ?_ ?_ ?_ ?_ ?_ ?_ ?_ h
  · intro v r; exact r
  · intro _ v r; exact r
  · intro _ v r; exact r
  · intro _ v r; exact r
  · intro _ v h; unfold DRel at h ⊢; obtain ⟨a, h1, h2⟩ := h; exact ⟨a, h1, h2.imp id (Or.imp id fun q => ⟨.inl q.1, q.2⟩)⟩
  · intro ds es _ ih v r
    unfold DRel at r ⊢; obtain ⟨a, vs, h1, h2, h3⟩ := r
    exact ⟨a, vs, h1, h2, ih h3⟩
  · intro ds es _ ih v r
    unfold DRel at r ⊢; obtain ⟨a, vs, h1, h2, h3⟩ := r
    exact ⟨a, vs, h1, ⟨.inl h2.1, h2.2⟩, ih h3⟩
  · intro n hn v r
    exact DRel.cut r (by unfold clD; exact hn)
  · intro n ds es hn hS _ ih v r
    unfold DRel at r ⊢; obtain ⟨a, h1, h2⟩ := r
    obtain ⟨vs, h3, h4⟩ := s.obj n a _ h2 hS
    exact ⟨a, vs, h1, ⟨.inr ⟨n, hn, h2⟩, h3⟩, ih h4⟩
  · intro vs r; exact r
  · intro d e ds es _ _ ih1 ih2 vs r
    unfold DRels at r ⊢; obtain ⟨v, r', h1, h2, h3⟩ := r
    exact ⟨v, r', h1, ih1 h2, ih2 h3⟩
end clo
/-! ### defs -/
abbrev FN := List D → So → Rs D
def spD (K : PySem.W.Frag) (F : FN) (n : Nat) : Sp := fun vs H Q E => vs.length = n ∧ ∃ W S ds, SRel K W H S ∧ DRels K W H ds vs ∧ Post K DRel W H (F ds S) Q E
def startD (N : List Str) (ds : List D) : En := ds.map some ++ List.replicate (N.length - ds.length) none
theorem start_rel {K : PySem.W.Frag} {W : Wd} {H : Hp} {N : List Str} {ds : List D} {vs : List V} (r : DRels K W H ds vs) : ERel K W H (startD N ds) (L2.start N vs) := by
  unfold startD L2.start
  refine ⟨by simp [r.length], fun i d h => ?_⟩
  by_cases c : i < ds.length
  · rw [List.getElem?_append_left (by simpa using c), List.getElem?_map] at h
    rw [List.getElem?_append_left (by simpa [← r.length] using c), List.getElem?_map]
    cases e : ds[i]? with
    | none => rw [e] at h; cases h
    | some d' =>
      rw [e] at h; cases h
      obtain ⟨v, h1, h2⟩ := r.get e
      exact ⟨v, by rw [h1]; rfl, h2⟩
  · rw [List.getElem?_append_right (by simpa using c), List.getElem?_replicate] at h
    split at h <;> cases h
/-- a body's end gives what the def is worth -/
def RetOk (S : So) (fl : Fl) (r : Rs D) : Prop := match r with
  | .no => True
  | .ok e S2 => S.length ≤ S2.length ∧ (∀ o ∈ S2, clO S2.length o) ∧ (match fl with
    | .rt d S1 => S2 = S1.take S2.length ∧ Cv S1 S2.length d e
    | .nx _ S1 => S2 = S1.take S2.length ∧ e = .non
    | _ => False)
  | .ex C S2 => S.length ≤ S2.length ∧ (∀ o ∈ S2, clO S2.length o) ∧ (match fl with
    | .ex C' _ S1 => C' = C ∧ S2 = S1.take S2.length
    | _ => False)
theorem ext_cut {K : PySem.W.Frag} {W W1 : Wd} {H H1 : Hp} {k : Nat} (x : Ext K W H W1 H1) (h : W.m.length ≤ k) : Ext K W H (W1.cut k) H1 :=
  ⟨⟨fun n a q => by
    show (W1.m.take k)[n]? = _
    rw [List.getElem?_take, if_pos (Nat.lt_of_lt_of_le (List.getElem?_eq_some_iff.mp q).1 h)]
    exact x.m n a q, fun a q => .inl (x.fz a q), x.tup, x.lst, x.scr⟩, x.rs⟩
theorem ret_post {K : PySem.W.Frag} {W : Wd} {H : Hp} {S : So} {fl : Fl} {r : Rs D} {Q : VK} {E : XK} (s : SRel K W H S) (h : RetOk S fl r) (p : Post K DRel W H r Q E) :
    PostS K W H fl { nx := fun _ H' => Q .non H', rt := Q } (fun c d _ H => E c d H) := by
  cases r with
  | no => exact p.elim
  | ok e S2 =>
    obtain ⟨h0, h1, h2⟩ := h
    cases fl with
    | rt d S1 =>
      obtain ⟨h3, h4⟩ := h2
      intro W1 H1 v x s1 r1
      refine p (W1.cut S2.length) H1 v (ext_cut x (by rw [s.len]; exact h0)) ?_ (cv_rel s1 h4 r1)
      have := s1.cut (k := S2.length) (by rw [← h3]; exact h1)
      rw [← h3] at this
      exact this
    | nx e1 S1 =>
      obtain ⟨h3, h4⟩ := h2
      subst h4
      intro W1 H1 σ x s1 r1
      refine p (W1.cut S2.length) H1 .non (ext_cut x (by rw [s.len]; exact h0)) ?_ dnon
      have := s1.cut (k := S2.length) (by rw [← h3]; exact h1)
      rw [← h3] at this
      exact this
    | _ => exact h2.elim
  | ex C S2 =>
    obtain ⟨h0, h1, h2⟩ := h
    cases fl with
    | ex C' e1 S1 =>
      obtain ⟨h3, h4⟩ := h2
      subst h3
      intro W1 H1 σ d x s1 r1
      refine p (W1.cut S2.length) H1 d (ext_cut x (by rw [s.len]; exact h0)) ?_
      have := s1.cut (k := S2.length) (by rw [← h4]; exact h1)
      rw [← h4] at this
      exact this
    | _ => exact h2.elim
section fns
variable {P : Program} {w : World} {K : PySem.W.Frag} {mg : Str → Option Value} {base : Heap}
/-- THE RULE for a def -/
theorem fn_ok {x qual : Str} {st : Stmt} {f : Addr} {fd : FuncData} {N ps : List Str} {k : Nat} {fb : FS} {F : FN} (F0 : Fun K x qual st f fd) (sc : FnScope N ps (defScope st))
    (hb : ∀ (cdv : Value) (A : Around) (outer : List Env) (s : Shared) (H : Hp) (E : XK), Room k (A.deeper (PyProof.Rows.envOfC qual (defScope st) s.heap.objs.size f cdv)) → PFB (cxOf (L2.CX P w) P w K mg base N qual (defScope st) f cdv A outer s H E) (fun c d _ H => E c d H) (defBody st) fb)
    (hF : ∀ ds S, ds.length = ps.length → clS S → clDs S.length ds → RetOk S (fb (startD N ds) S) (F ds S)) : FnOk P w K mg base (L2.CX P w) (k + 1) f fd ps (spD K F ps.length) := by
  refine F0.okX sc (fun vs H Q E h => h.1) (fun cdv A outer s H vs Q E hr h => ?_)
  obtain ⟨hl, W, S, ds, hs, rd, hp⟩ := h
  refine ⟨wSs _ (defBody st), pss_w, ?_⟩
  refine (hb cdv A outer s H E hr).run W H (L2.start N vs) (startD N ds) S _ (start_rel rd) hs ?_
  exact ret_post hs (hF ds S (by rw [rd.length]; exact hl) hs.clo (by have := rd.clo; rw [hs.len] at this; exact this)) hp
end fns
section calls
variable {X : Cx} {Wx : WX} {k n : Nat} {f C : Addr} {fd : FuncData} {ps : List Str} {F : FN} {x m : Str} {p pos apos : Pos} {e o : Expr} {es : List Expr} {fa : FA} {fo : FE}
def fCall (F : FN) (fa : FA) : FE := fun en S => (fa en S).bind fun ds S1 => F ds S1
/-- only n arguments -/
def FN.len (F : FN) (n : Nat) : FN := fun ds S => if ds.length = n then F ds S else .no
theorem pf_call (G : FnOk X.prog X.w X.K X.mg X.base (L2.CX X.prog X.w) k f fd ps (spD X.K F n)) (hr : Room k X.A) (hg : Gl X x) (hm : X.mg x = some (.ref f)) (hk : PySem.W.keepIn X.K (.ref f) = true) (hb : Binds X.K fd ps []) (tk : Takes X Wx)
    (ha : PFA X Wx (e :: es) fa) (hdb : (x == ("__debug__" : Str)) = false := by decide) (he : starEach (e :: es) X.env = (false, eval e X.env) :: starEach es X.env := by rfl) (hpl : (backTo pos (starEach es X.env)).any (·.1) = false := by rfl) :
    PFE X Wx (.Call (.Name x p) (e :: es) [] pos) (fCall (F.len n) fa) := by
  refine ⟨fun W H σ en S Q he' hs hp => PE_w (pe_callS G hr hg hm hk hb (fun σ => passAt tk σ) pa_w hdb he hpl) (ha.run W H σ en S _ he' hs (Post.bind hp fun ds S1 W1 H1 vs e1 s1 r1 p1 => ?_))⟩
  unfold FN.len at p1
  split at p1
  · exact ⟨by rw [← r1.length]; assumption, W1, S1, ds, s1, r1, p1⟩
  · exact p1.elim
/-- a def as its callers see it -/
structure Cal (P : Program) (w : World) (K : PySem.W.Frag) (mg : Str → Option Value) (base : Heap) (x : Str) (ps : List Str) (k : Nat) (F : FN) : Prop where
  ex : ∃ f fd, mg x = some (.ref f) ∧ PySem.W.keepIn K (.ref f) = true ∧ Binds K fd ps [] ∧ FnOk P w K mg base (L2.CX P w) k f fd ps (spD K F ps.length)
theorem pf_callC {j : Nat} (c : Cal X.prog X.w X.K X.mg X.base x ps k F) (hr : Room j X.A) (hj : k ≤ j) (hg : Gl X x) (tk : Takes X Wx)
    (ha : PFA X Wx (e :: es) fa) (hn : ps.length = n := by rfl) (hdb : (x == ("__debug__" : Str)) = false := by decide) (he : starEach (e :: es) X.env = (false, eval e X.env) :: starEach es X.env := by rfl) (hpl : (backTo pos (starEach es X.env)).any (·.1) = false := by rfl) :
    PFE X Wx (.Call (.Name x p) (e :: es) [] pos) (fCall (F.len n) fa) := by
  subst hn
  obtain ⟨f, fd, h1, h2, h3, h4⟩ := c.ex
  exact pf_call h4 (hr.mono hj) hg h1 h2 h3 tk ha hdb he hpl
/-- what the top says of an own error class without an init of its own -/
structure Exc (K : PySem.W.Frag) (mg : Str → Option Value) (x : Str) (C : Addr) : Prop where
  g : mg x = some (.ref C)
  q : PySem.W.excIn K C [.type "ValueError", .type "Exception", .type "BaseException", .type "object"] "ValueError.__new__" = true
  k : PySem.W.keepIn K (.ref C) = true
  b : PySem.W.subIn K (.ref C) (.type "BaseException") = some true
  t : PySem.W.typeIn K (.ref C) = some (.type "type")
/-- raise C('..') -/
def fRaise (C : Addr) : FS := fun en S => .ex C en S
theorem pfs_raise (hc : X.calm = true) (tk : Takes X Wx) (he : PMk X e (fun _ H Q => Q (.ref C) none H)) : PFS X Wx (.Raise (some e) none pos) (fRaise C) :=
  ⟨fun W H σ en S Z he' hs hp => PS_w (ps_raise hc tk he) (hp W H σ none Ext.refl hs he')⟩
theorem pfs_raiseE {m : Str} {j : Nat} {p2 : Pos} (ex : Exc X.K X.mg x C) (hc : X.calm = true) (tk : Takes X Wx) (hg : Gl X x) (hdb : (x == ("__debug__" : Str)) = false := by decide) :
    PFS X Wx (.Raise (some (.Call (.Name x p) [.Constant (.str m) j p2] [] apos)) none pos) (fRaise C) :=
  pfs_raise hc tk (pmk_own PySem.F.excBase_ValueError ex.q ex.g ex.k (raises_own ex.b ex.t) hg hdb)
/-- try: body except C1: suite .. -/
def handle (K : PySem.W.Frag) (C : Addr) : List (Addr × FS) → FS
  | [] => fun en S => .ex C en S
  | (C1, fs) :: r => fun en S => match PySem.W.exmOne K (.ref C) (.ref C1) with
    | some true => fs en S
    | some false => handle K C r en S
    | none => .no
def fTry (K : PySem.W.Frag) (fb : FS) (hds : List (Addr × FS)) : FS := fun en S => match fb en S with
  | .ex C e1 S1 => handle K C hds e1 S1
  | o => o
/-- nothing is raised in a suite -/
def quiet (f : FS) : FS := fun en S => match f en S with
  | .ex _ _ _ => .no
  | o => o
theorem pfb_quiet {X : Cx} {st : List Stmt} {fs : FS} {Wx : WX} (h : PFB X Wx st fs) : PFB X Wx st (quiet fs) := by
  refine ⟨fun W H σ en S Z he hs hp => h.run W H σ en S Z he hs ?_⟩
  unfold quiet at hp
  split at hp
  · exact hp.elim
  · exact hp
/-- the clauses -/
inductive PFH (X : Cx) : List ExceptHandler → List (Addr × FS) → Prop
  | nil : PFH X [] []
  | cons {x : Str} {C : Addr} {fs : FS} {b0 : Stmt} {suite : List Stmt} {np pos' : Pos} {hds : List ExceptHandler} {l : List (Addr × FS)} (hc : Names X x (.ref C))
      (hsu : ∀ (a : Addr) (oe : Obj) (cls : Value) (d : Option Addr) (pn : List (Addr × Obj)), PFB (X.suite a ((a, oe) :: pn)) F0 (b0 :: suite) fs) (r : PFH X hds l) :
      PFH X (.ExceptHandler (some (.Name x np)) none (b0 :: suite) pos' :: hds) ((C, quiet fs) :: l)
def tyS (K : PySem.W.Frag) (fs : FS) (Wx : WX) : TS := fun Z σ H => ∃ W en S, ERel K W H en σ ∧ SRel K W H S ∧ PostS K W H (fs en S) Z Wx
theorem pss_ty {X : Cx} {st : List Stmt} {fs : FS} {Wx : WX} (h : PFB X Wx st fs) : PSs X st (tyS X.K fs Wx) := ⟨fun pins s σ H Z I ⟨W, en, S, he, hs, hp⟩ => h.run W H σ en S Z he hs hp pins s I⟩
theorem pfh_ok {hds : List ExceptHandler} {l : List (Addr × FS)} (h : PFH X hds l) : HdsOk X hds (l.map fun p => (Value.ref p.1, fun _ _ _ => tyS X.K p.2 F0)) := by
  induction h with
  | nil => exact .nil
  | cons hc hsu r ih => exact .cons hc (fun a oe cls d pn _ _ => pss_ty (pfb_quiet (hsu a oe cls d pn))) ih
theorem postS_F0 {K : PySem.W.Frag} {W : Wd} {H : Hp} {fl : Fl} {Z : Ends} {Wx : WX} (h : PostS K W H fl Z Wx) (hn : ∀ C e S, fl ≠ .ex C e S) : PostS K W H fl Z F0 := by
  cases fl with
  | ex C e S => exact (hn C e S rfl).elim
  | _ => exact h
theorem pfh_quiet {hds : List ExceptHandler} {l : List (Addr × FS)} (h : PFH X hds l) : ∀ p ∈ l, ∀ en S C e S1, p.2 en S ≠ .ex C e S1 := by
  induction h with
  | nil => intro p hp; cases hp
  | cons hc hsu r ih =>
    intro p hp en S C e S1
    rcases List.mem_cons.mp hp with rfl | hp
    · intro q
      simp only [quiet] at q
      split at q
      · cases q
      · rename_i hne; exact hne C e S1 q
    · exact ih p hp en S C e S1
theorem pfs_try {body : List Stmt} {fb : FS} {h0 : ExceptHandler} {hds : List ExceptHandler} {l : List (Addr × FS)} (hs : X.stack = X.env :: X.outer) (hf : X.env.frame = some X.env.locals) (tk : Takes X Wx)
    (hb : ∀ (W : WX) (pn : List (Addr × Obj)) (xe : Value → Shared → Prop), Takes (X.tr pn xe) W → PassesOwn (model X.prog X.w) X.A X.env xe → PFB (X.tr pn xe) W body fb) (hh : PFH X (h0 :: hds) l) :
    PFS X Wx (.Try body (h0 :: hds) [] [] pos) (fTry X.K fb l) := by
  refine ⟨fun W H σ en S Z he' hs' hp => PS_w (ps_try_many (tb := fun W => tyS X.K fb W) hs hf tk (fun W pn xe tk' po => pss_ty (hb W pn xe tk' po)) (pfh_ok hh)) ⟨W, en, S, he', hs', ?_⟩⟩
  unfold fTry at hp
  cases q : fb en S with
  | ex C e1 S1 =>
    rw [q] at hp
    simp only at hp
    intro W1 H1 σ1 d x s1 r1
    replace hp := PostS.later hp x
    have hq := pfh_quiet hh
    clear hh q
    induction l with
    | nil => exact hp W1 H1 σ1 d Ext.refl s1 r1
    | cons p l ih =>
      simp only [handle] at hp
      split at hp
      · rename_i hx
        exact ⟨true, hx, fun _ a ha => ⟨W1, e1, S1, r1, s1, postS_F0 hp fun C e S z => hq p List.mem_cons_self _ _ _ _ _ z⟩, fun z => by cases z⟩
      · rename_i hx
        exact ⟨false, hx, fun z => (by cases z), fun _ => ih hp fun p' hp' => hq p' (List.mem_cons_of_mem _ hp')⟩
      · exact hp.elim
  | nx a b => rw [q] at hp; exact hp
  | rt a b => rw [q] at hp; exact hp
  | bk a b => rw [q] at hp; exact hp
  | ct a b => rw [q] at hp; exact hp
  | no => rw [q] at hp; exact hp
end calls
end PF

namespace PF
open PySem L2
variable [Tab]
/-! ### further tests and comparisons -/
section more
variable {X : Cx} {Wx : WX} {a b c d e : Expr} {fa fb fc fd : FE} {ga gb gc : FT} {pos : Pos}
def fIfT (g : FT) (f h : FT) : FT := fun en S => (g en S).bind fun k S1 => if k = true then f en S1 else h en S1
theorem pft_ifExp (hc : PFT X Wx c gc) (ha : PFT X Wx a ga) (hb : PFT X Wx b gb) : PFT X Wx (.IfExp c a b pos) (fIfT gc ga gb) := by
  refine ⟨fun W H σ en S Q he hs hp pins s I => PyProof.Rows.isTrue_IfExp ?_⟩
  have h1 : wT X c σ H fun k H1 => if k = true then wT X a σ H1 Q else wT X b σ H1 Q := by
    refine hc.run W H σ en S _ he hs (Post.bind hp fun k S1 W1 H1 x e1 s1 r1 p1 => ?_)
    cases r1
    cases k with
    | true => exact iteT (ha.run W1 H1 σ en S1 Q (he.ext e1) s1 p1)
    | false => exact iteF (hb.run W1 H1 σ en S1 Q (he.ext e1) s1 p1)
  refine thn (h1 pins s I) fun k s1 hk => ?_
  obtain ⟨H1, I1, q⟩ := hk
  cases k with
  | true => rw [if_pos rfl] at q ⊢; exact q pins s1 I1
  | false => rw [if_neg Bool.false_ne_true] at q ⊢; exact q pins s1 I1
/-- > of ints and of tuples of ints -/
theorem lexAt_shift {e r : Nat → Bool} {z : Bool} : ∀ (k i : Nat), Ob.lexAt e r z (i + 1) k = Ob.lexAt (fun j => e (j + 1)) (fun j => r (j + 1)) z i k
  | 0, i => rfl
  | k + 1, i => by
    rw [Ob.lexAt_succ, Ob.lexAt_succ, lexAt_shift k (i + 1)]
theorem lexGt_eq : ∀ (ns ms : List Int), Ob.lexAt (fun j => decide (ns.getD j 0 = ms.getD j 0)) (fun j => decide (ms.getD j 0 < ns.getD j 0)) (decide (ns.length > ms.length)) 0 (min ns.length ms.length) = HT.lexLt ms ns
  | [], [] => rfl
  | [], m :: ms => by simp [Ob.lexAt, HT.lexLt]
  | n :: ns, [] => by simp [Ob.lexAt, HT.lexLt]
  | n :: ns, m :: ms => by
    have e1 : min (n :: ns).length (m :: ms).length = min ns.length ms.length + 1 := by simp only [List.length_cons]; omega
    rw [e1, Ob.lexAt_succ, HT.lexLt_cons]
    by_cases h : n = m
    · subst h
      rw [if_pos rfl]
      have ih := lexGt_eq ns ms
      rw [← ih]
      simp only [List.getD_cons_zero, decide_true, if_true]
      rw [lexAt_shift]
      congr 1
      simp only [List.length_cons, gt_iff_lt, Nat.add_lt_add_iff_right]
    · have h' : ¬ m = n := fun q => h q.symm
      rw [if_neg h']
      simp [h]
def rGtT (K : PySem.W.Frag) : R2 := fun x y H Q => ∃ (a b : Addr) (ns ms : List Int), x = .ref a ∧ y = .ref b ∧ SqT K H a (ns.map V.int) ∧ SqT K H b (ms.map V.int) ∧ Q (.bl (HT.lexLt ms ns)) H
theorem op_gtT (hu : X.A.units < cLine) : OpR X (compareOp .Gt) (rGtT X.K) := by
  intro pins s σ H x y v u Q I rx ry ⟨p, q, ns, ms, ex, ey, hp, hq, k⟩
  subst ex; subst ey
  cases rx; cases ry
  obtain ⟨its, r1, p1, _⟩ := I.tuple hp
  obtain ⟨its2, r2, p2, _⟩ := I.tuple hq
  have i1 : PyProof.Rows.IntsAre its ns := Vals.ints r1
  have i2 : PyProof.Rows.IntsAre its2 ms := Vals.ints r2
  have z1 : its.toArray.size = ns.length := List.size_toArray.trans i1.length
  have z2 : its2.toArray.size = ms.length := List.size_toArray.trans i2.length
  have g1 : ∀ j (h : j < its.toArray.size), ∃ t, its.toArray[j] = .int (ns.getD j 0) t := fun j h => PyProof.Rows.IntsAre.int_at i1 _ _ (by simp at h; simp [h])
  have g2 : ∀ j (h : j < its2.toArray.size), ∃ t, its2.toArray[j] = .int (ms.getD j 0) t := fun j h => PyProof.Rows.IntsAre.int_at i2 _ _ (by simp at h; simp [h])
  have R := Ob.RcOp.tuples_gt (A := X.A) (s := s) (e := fun j => decide (ns.getD j 0 = ms.getD j 0)) (r := fun j => decide (ms.getD j 0 < ns.getD j 0)) p1 p2 hu
    (fun j h1 h2 => by
      obtain ⟨t, et⟩ := g1 j h1
      obtain ⟨t', et'⟩ := g2 j h2
      rw [et, et', ← Bool.beq_eq_decide_eq]
      exact SeqAt.EqAt.int_int _ _ _ _)
    (fun j h1 h2 _ => by
      obtain ⟨t, et⟩ := g1 j h1
      obtain ⟨t', et'⟩ := g2 j h2
      rw [et, et']
      exact Ob.RcOp.gt_int _ _ _ _)
  rw [z1, z2, lexGt_eq] at R
  exact R X.prog X.w X.xe (EP X pins σ Q) ⟨.bl _, H, I, rfl, k⟩
def gGtA : G2 := fun a b S => match a, b with
  | .int i, .int j => some (.bl (decide (j < i)), S)
  | .tup xs, .tup ys => match intsOf xs, intsOf ys with
    | some ns, some ms => some (.bl (HT.lexLt ms ns), S)
    | _, _ => none
  | _, _ => none
def rGtA (K : PySem.W.Frag) : R2 := fun x y H Q => rI0 (fun i j => .bl (decide (j < i))) x y H Q ∨ rGtT K x y H Q
theorem op_gtA (hu : X.A.units < cLine) : OpR X (compareOp .Gt) (rGtA X.K) := op_gt.or (op_gtT hu)
theorem opd_gtA {K : PySem.W.Frag} : OpD K (rGtA K) gGtA := by
  intro W H S x y a b Q s ra rb p
  unfold gGtA at p
  split at p
  · unfold DRel at ra rb; exact .inl ⟨_, _, ra, rb, p.here s dbl⟩
  · split at p
    · rename_i h1 h2
      obtain ⟨p1, e1, t1⟩ := tup_ints ra h1
      obtain ⟨p2, e2, t2⟩ := tup_ints rb h2
      exact .inr ⟨p1, p2, _, _, e1, e2, t1, t2, p.here s dbl⟩
    · exact p.elim
  · exact p.elim
theorem opd_imul {K : PySem.W.Frag} : OpD K (rI CMul fun i j => .int (i * j)) (gIc cMul fun i j => i * j) := opd_Ic fun i j h => cMul_ok h
/-- x in a row of flat things -/
def flD : D → Option V
  | .non => some .non
  | .bl b => some (.bl b)
  | .int i => some (.int i)
  | .str x => some (.str x)
  | _ => none
def flDs : List D → Option (List V)
  | [] => some []
  | d :: ds => match flD d, flDs ds with
    | some v, some r => some (v :: r)
    | _, _ => none
theorem flD_rel {K : PySem.W.Frag} {W : Wd} {H : Hp} {d : D} {v u : V} (r : DRel K W H d v) (h : flD d = some u) : v = u ∧ flatV u = true := by
  cases d <;> simp only [flD] at h <;> first | cases h | skip
  all_goals (unfold DRel at r; subst r; exact ⟨rfl, rfl⟩)
theorem flDs_rel {K : PySem.W.Frag} {W : Wd} {H : Hp} : ∀ {ds : List D} {vs us : List V}, DRels K W H ds vs → flDs ds = some us → vs = us ∧ us.all flatV = true
  | [], vs, us, r, h => by unfold DRels at r; subst r; simp only [flDs] at h; cases h; exact ⟨rfl, rfl⟩
  | d :: ds, vs, us, r, h => by
    unfold DRels at r; obtain ⟨v, vr, rfl, h1, h2⟩ := r
    simp only [flDs] at h
    split at h
    · cases h
      obtain ⟨rfl, e2⟩ := flD_rel h1 (by assumption)
      obtain ⟨rfl, e4⟩ := flDs_rel h2 (by assumption)
      exact ⟨rfl, by rw [List.all_cons, e2, e4]; rfl⟩
    · cases h
def inD (S : So) (a b : D) : Option Bool := match flD a, sqOf S b with
  | some x, some ds => match flDs ds with
    | some us => some (inV x us)
    | none => none
  | _, _ => none
def gIn : G2 := fun a b S => match inD S a b with
  | some k => some (.bl k, S)
  | none => none
def gNotIn : G2 := fun a b S => match inD S a b with
  | some k => some (.bl (!k), S)
  | none => none
theorem inD_rel {K : PySem.W.Frag} {W : Wd} {H : Hp} {S : So} {a b : D} {x y : V} {k : Bool} (s : SRel K W H S) (ra : DRel K W H a x) (rb : DRel K W H b y) (h : inD S a b = some k) :
    ∃ p xs, y = .ref p ∧ (SqL K H p xs ∨ SqT K H p xs) ∧ flatV x = true ∧ xs.all flatV = true ∧ inV x xs = k := by
  unfold inD at h
  split at h
  · rename_i u ds h1 h2
    split at h
    · rename_i us h3
      cases h
      obtain ⟨rfl, e1⟩ := flD_rel ra h1
      obtain ⟨p, vs, rfl, h4, h5⟩ := sqOf_rel s rb h2
      obtain ⟨rfl, e2⟩ := flDs_rel h5 h3
      exact ⟨p, vs, rfl, h4, e1, e2, rfl⟩
    · cases h
  · cases h
theorem opd_in {K : PySem.W.Frag} : OpD K (rIn K false) gIn := by
  intro W H S x y a b Q s ra rb p
  unfold gIn at p
  split at p
  · rename_i k hk
    obtain ⟨q, xs, rfl, h1, h2, h3, h4⟩ := inD_rel s ra rb hk
    exact ⟨q, xs, rfl, h1, h2, h3, by rw [if_neg Bool.false_ne_true, h4]; exact p.here s dbl⟩
  · exact p.elim
theorem opd_notin {K : PySem.W.Frag} : OpD K (rIn K true) gNotIn := by
  intro W H S x y a b Q s ra rb p
  unfold gNotIn at p
  split at p
  · rename_i k hk
    obtain ⟨q, xs, rfl, h1, h2, h3, h4⟩ := inD_rel s ra rb hk
    exact ⟨q, xs, rfl, h1, h2, h3, by rw [if_pos rfl, h4]; exact p.here s dbl⟩
  · exact p.elim
/-- a, b, c = x, y, z -/
def fPar3 (i j l : Nat) (fa : FA) : FS := fun en S => fthen en (fa en S) fun ds S1 => match ds with
  | [d1, d2, d3] => .nx (((en.set i (some d1)).set j (some d2)).set l (some d3)) S1
  | _ => .no
theorem pfs_par3 {i j l : Nat} {x y z : Str} {fa : FA} {px py pz pt : Pos} {kt k2 pt2} (hc : X.calm = true) (hN : X.N.Nodup) (hi : X.N[i]? = some x) (hj : X.N[j]? = some y) (hl : X.N[l]? = some z) (hij : i ≠ j) (hil : i ≠ l) (hjl : j ≠ l)
    (hx : X.env.scope.names.lookup x = some .local) (hy : X.env.scope.names.lookup y = some .local) (hz : X.env.scope.names.lookup z = some .local) (ha : PFA X Wx [a, b, c] fa)
    (hw : swappedStores [.Tuple [.Name x px, .Name y py, .Name z pz] kt pt] (.Tuple [a, b, c] k2 pt2) X.env = pure (some [x, y, z]))
    (hs : swapsWithSole [.Tuple [.Name x px, .Name y py, .Name z pz] kt pt] (.Tuple [a, b, c] k2 pt2) pos.line X.env = pure false := by rfl) :
    PFS X Wx (.Assign [.Tuple [.Name x px, .Name y py, .Name z pz] kt pt] (.Tuple [a, b, c] k2 pt2) pos) (fPar3 i j l fa) := by
  refine ⟨fun W H σ en S Z he' hs' hp => PS_w (ps_par3 hc hN hi hj hl hij hil hjl hx hy hz pa_w hw hs) (ha.run W H σ en S _ he' hs' (post_then he' hp fun ds S1 W1 H1 vs e1 s1 r1 p1 => ?_))⟩
  match ds, r1, p1 with
  | [d1, d2, d3], r1, p1 =>
    unfold DRels at r1
    obtain ⟨v1, vr, rfl, q1, r2⟩ := r1
    obtain ⟨v2, v3, rfl, q2, q3⟩ := drels2 r2
    exact ⟨v1, v2, v3, rfl, p1 W1 H1 _ Ext.refl s1 ((((he'.ext e1).set q1).set q2).set q3)⟩
  | [], _, p1 => exact p1.elim
  | [_], _, p1 => exact p1.elim
  | [_, _], _, p1 => exact p1.elim
  | _ :: _ :: _ :: _ :: _, _, p1 => exact p1.elim
/-- list(range(..)), tuple(range(..)) -/
def okRg (a b : Int) : Bool := decide (-(2 ^ 62) ≤ a) && decide (a < 2 ^ 62) && decide (-(2 ^ 62) ≤ b) && decide (b < 2 ^ 62) && decide ((b - a).toNat ≤ 2 ^ 24)
theorem okRg_ok {a b : Int} (h : okRg a b = true) : RgOk a b := by
  simp only [okRg, Bool.and_eq_true, decide_eq_true_eq] at h
  exact ⟨h.1.1.1.1, h.1.1.1.2, h.1.1.2, h.1.2, h.2⟩
theorem rg_rel {K : PySem.W.Frag} {W : Wd} {H : Hp} (lo hi : Int) : DRels K W H (rgD lo (hi - lo).toNat) (rgV lo hi) := by
  have e1 : rgD lo (hi - lo).toNat = ((List.range (hi - lo).toNat).map fun (i : Nat) => lo + (i : Int)).map D.int := by simp [rgD]
  have e2 : rgV lo hi = ((List.range (hi - lo).toNat).map fun (i : Nat) => lo + (i : Int)).map V.int := by simp [rgV]
  rw [e1, e2]
  exact DRels.ints _
def fLstRg1 (mu : Bool) (f : FE) : FE := fun en S => (f en S).bind fun d S1 => match d with
  | .int n => if okRg 0 n = true then ofO (some (newL mu (rgD 0 (n - 0).toNat) S1)) else .no
  | _ => .no
def fTupRg1 (f : FE) : FE := fun en S => (f en S).bind fun d S1 => match d with
  | .int n => if okRg 0 n = true then .ok (.tup (rgD 0 (n - 0).toNat)) S1 else .no
  | _ => .no
theorem pf_lstRg1 (mu : Bool) {p q : Pos} (hc : X.calm = true) (hg : Gl X "list") (hm : X.mg "list" = none) (hg2 : Gl X "range") (hm2 : X.mg "range" = none) (ha : PFE X Wx a fa)
    (na : starEach [a] X.env = (false, eval a X.env) :: starEach [] X.env := by rfl) (nb : starEach [.Call (.Name "range" p) [a] [] pos] X.env = (false, eval (.Call (.Name "range" p) [a] [] pos) X.env) :: starEach [] X.env := by rfl) {pos2 : Pos} :
    PFE X Wx (.Call (.Name "list" q) [.Call (.Name "range" p) [a] [] pos] [] pos2) (fLstRg1 mu fa) := by
  refine ⟨fun W H σ en S Q he hs hp => PE_w (pe_listRg hc hg hm (prg_1 hg2 hm2 pe_w na) nb) (ha.run W H σ en S _ he hs (Post.bind hp fun d S1 W1 H1 v e1 s1 r1 p1 => ?_))⟩
  cases d with
  | int n =>
    unfold DRel at r1
    simp only at p1
    split at p1
    · exact ⟨n, r1, okRg_ok (by assumption), fun q hq => new_list mu s1 (rg_rel 0 n) (postO p1) hq⟩
    · exact p1.elim
  | _ => exact p1.elim
theorem pf_tupRg1 {p q : Pos} (hc : X.calm = true) (hg : Gl X "tuple") (hm : X.mg "tuple" = none) (hg2 : Gl X "range") (hm2 : X.mg "range" = none) (ha : PFE X Wx a fa)
    (na : starEach [a] X.env = (false, eval a X.env) :: starEach [] X.env := by rfl) (nb : starEach [.Call (.Name "range" p) [a] [] pos] X.env = (false, eval (.Call (.Name "range" p) [a] [] pos) X.env) :: starEach [] X.env := by rfl) {pos2 : Pos} :
    PFE X Wx (.Call (.Name "tuple" q) [.Call (.Name "range" p) [a] [] pos] [] pos2) (fTupRg1 fa) := by
  refine ⟨fun W H σ en S Q he hs hp => PE_w (pe_tupRg hc hg hm (prg_1 hg2 hm2 pe_w na) nb) (ha.run W H σ en S _ he hs (Post.bind hp fun d S1 W1 H1 v e1 s1 r1 p1 => ?_))⟩
  cases d with
  | int n =>
    unfold DRel at r1
    simp only at p1
    split at p1
    · exact ⟨n, r1, okRg_ok (by assumption), fun q hq => new_tup s1 (rg_rel 0 n) p1 hq⟩
    · exact p1.elim
  | _ => exact p1.elim
end more
end PF

namespace PF
open PySem L2
variable [Tab]
/-! ### ends of a def -/
section ends
variable {S J S1 : So} {d e : D} {C : Addr} {en : En}
theorem ret_pure (hc : clS S) (hd : clD S.length d) : RetOk S (.rt d S) (.ok d S) := ⟨Nat.le_refl _, hc, by simp, Cv.same hd⟩
theorem ret_junk (hc : clS S) (hd : clD S.length d) : RetOk S (.rt d (S ++ J)) (.ok d S) := ⟨Nat.le_refl _, hc, by simp, Cv.same hd⟩
theorem ret_conv (hc : clS S) (h : Cv (S ++ J) S.length d e) : RetOk S (.rt d (S ++ J)) (.ok e S) := ⟨Nat.le_refl _, hc, by simp, h⟩
theorem ret_all (hl : S.length ≤ S1.length) (hc : clS S1) (hd : clD S1.length d) : RetOk S (.rt d S1) (.ok d S1) := ⟨hl, hc, by simp, Cv.same hd⟩
theorem ret_next (hc : clS S) : RetOk S (.nx en (S ++ J)) (.ok .non S) := ⟨Nat.le_refl _, hc, by simp, rfl⟩
theorem ret_next0 (hc : clS S) : RetOk S (.nx en S) (.ok .non S) := ⟨Nat.le_refl _, hc, by simp, rfl⟩
theorem ret_ex (hc : clS S) : RetOk S (.ex C en (S ++ J)) (.ex C S) := ⟨Nat.le_refl _, hc, rfl, by simp⟩
theorem ret_ex0 (hc : clS S) : RetOk S (.ex C en S) (.ex C S) := ⟨Nat.le_refl _, hc, rfl, by simp⟩
theorem ret_no {fl : Fl} : RetOk S fl .no := trivial
end ends
/-! ### the equations of the functions, for simp -/
theorem nr {α : Sort _} {a b : α} (h : a = b) : a = b := h
section eqs
variable {α β : Type} {en e1 : En} {S S1 S2 : So} {d : D} {C : Addr}
@[simp] theorem bind_ok (a : α) (S : So) (k : α → So → Rs β) : (Rs.ok a S).bind k = k a S := rfl
@[simp] theorem bind_ex (C : Addr) (S : So) (k : α → So → Rs β) : (Rs.ex C S).bind k = .ex C S := rfl
@[simp] theorem bind_no (k : α → So → Rs β) : (Rs.no).bind k = .no := rfl
@[simp] theorem then_ok (en : En) (a : α) (S : So) (k : α → So → Fl) : fthen en (.ok a S) k = k a S := rfl
@[simp] theorem then_ex (en : En) (C : Addr) (S : So) (k : α → So → Fl) : fthen en (.ex C S) k = .ex C en S := rfl
@[simp] theorem then_no (en : En) (k : α → So → Fl) : fthen en .no k = .no := rfl
@[simp] theorem ofO_some (d : D) (S : So) : ofO (some (d, S)) = .ok d S := rfl
@[simp] theorem ofO_none : ofO none = .no := rfl
@[simp] theorem newL_f (ds : List D) (S : So) : newL false ds S = (.lst ds, S) := rfl
@[simp] theorem newL_t (ds : List D) (S : So) : newL true ds S = (.ref S.length, S ++ [.lst ds]) := rfl
/-- a name's value -/
def valO (o : Option (Option D)) (S : So) : Rs D := match o with
  | some (some d) => .ok d S
  | _ => .no
@[simp] theorem valO_some (d : D) (S : So) : valO (some (some d)) S = .ok d S := rfl
@[simp] theorem fVar_eq (i : Nat) : fVar i en S = valO en[i]? S := rfl
@[simp] theorem fC_eq (d : D) : fC d en S = .ok d S := rfl
@[simp] theorem fOp_eq (g : G2) (fa fb : FE) : fOp g fa fb en S = (fa en S).bind fun a S1 => (fb en S1).bind fun b S2 => ofO (g a b S2) := rfl
@[simp] theorem fTst_eq (f : FE) : fTst f en S = (f en S).bind isB := rfl
@[simp] theorem isB_bl (b : Bool) : isB (.bl b) S = .ok b S := rfl
@[simp] theorem fTru_eq (f : FE) : fTru f en S = (f en S).bind isT := rfl
@[simp] theorem isT_bl (b : Bool) : isT (.bl b) S = .ok b S := rfl
@[simp] theorem isT_int (i : Int) : isT (.int i) S = .ok (i != 0) S := rfl
@[simp] theorem isT_non : isT .non S = .ok false S := rfl
@[simp] theorem fNotT_eq (g : FT) : fNotT g en S = (g en S).bind fun k S1 => .ok (!k) S1 := rfl
@[simp] theorem fAndT_eq (g h : FT) : fAndT g h en S = (g en S).bind fun k S1 => if k = true then h en S1 else .ok false S1 := rfl
@[simp] theorem fOrT_eq (g h : FT) : fOrT g h en S = (g en S).bind fun k S1 => if k = true then .ok true S1 else h en S1 := rfl
/-- the bool of a value -/
def asB (d : D) (k : Bool → Rs α) : Rs α := match d with
  | .bl b => k b
  | _ => .no
@[simp] theorem asB_bl (b : Bool) (k : Bool → Rs α) : asB (.bl b) k = k b := rfl
@[simp] theorem fAndV_eq (f g : FE) : fAndV f g en S = (f en S).bind fun d S1 => asB d fun k => if k = true then g en S1 else .ok (.bl false) S1 := by
  rfl
@[simp] theorem fOrV_eq (f g : FE) : fOrV f g en S = (f en S).bind fun d S1 => asB d fun k => if k = true then .ok (.bl true) S1 else g en S1 := by
  rfl
@[simp] theorem fNotV_eq (f : FE) : fNotV f en S = (f en S).bind fun d S1 => asB d fun k => .ok (.bl (!k)) S1 := by
  rfl
@[simp] theorem fIf_eq (g : FT) (f h : FE) : fIf g f h en S = (g en S).bind fun k S1 => if k = true then f en S1 else h en S1 := rfl
@[simp] theorem fIfT_eq (g : FT) (f h : FT) : fIfT g f h en S = (g en S).bind fun k S1 => if k = true then f en S1 else h en S1 := rfl
@[simp] theorem fChain_eq (g g' : G2) (fa fb fc : FE) : fChain g g' fa fb fc en S = (fa en S).bind fun x S1 => (fb en S1).bind fun y S2 => (ofO (g x y S2)).bind fun z S3 => asB z fun k => if k = true then (fc en S3).bind fun w S4 => ofO (g' y w S4) else .ok (.bl false) S3 := by
  rfl
@[simp] theorem fNil_eq : fNil en S = .ok [] S := rfl
@[simp] theorem fCons_eq (f : FE) (g : FA) : fCons f g en S = (f en S).bind fun d S1 => (g en S1).bind fun ds S2 => .ok (d :: ds) S2 := rfl
@[simp] theorem fTup_eq (g : FA) : fTup g en S = (g en S).bind fun ds S1 => if ds.length ≤ sizeLine then .ok (.tup ds) S1 else .no := nr rfl
@[simp] theorem fLst_eq (mu : Bool) (g : FA) : fLst mu g en S = (g en S).bind fun ds S1 => if ds.length ≤ sizeLine then ofO (some (newL mu ds S1)) else .no := nr rfl
@[simp] theorem fCB_eq (g : GA) (fa : FA) : fCB g fa en S = (fa en S).bind fun ds S1 => ofO (g ds S1) := rfl
@[simp] theorem fCall_eq (F : FN) (fa : FA) : fCall F fa en S = (fa en S).bind fun ds S1 => F ds S1 := rfl
@[simp] theorem fLen_eq (F : FN) (n : Nat) (ds : List D) : FN.len F n ds S = if ds.length = n then F ds S else .no := rfl
@[simp] theorem fSl_eq (mu : Bool) (fa : FE) (fl fh : FO) : fSl mu fa fl fh en S = (fa en S).bind fun d S1 => (fl en S1).bind fun lo S2 => (fh en S2).bind fun hi S3 => ofO (gSl mu d lo hi S3) := rfl
@[simp] theorem fNoPart_eq : fNoPart en S = .ok none S := rfl
def asI (d : D) (k : Int → Rs α) : Rs α := match d with
  | .int b => k b
  | _ => .no
@[simp] theorem asI_int (b : Int) (k : Int → Rs α) : asI (.int b) k = k b := rfl
@[simp] theorem fPart_eq (f : FE) : fPart f en S = (f en S).bind fun d S1 => asI d fun i => .ok (some i) S1 := by
  rfl
@[simp] theorem fNeg_eq (f : FE) : fNeg f en S = (f en S).bind fun d S1 => asI d fun i => .ok (.int (-i)) S1 := by
  rfl
@[simp] theorem fBM_eq (T : String) (g : GM) (fo : FE) (fa : FA) : fBM T g fo fa en S = (fo en S).bind fun d S1 => if isTy S1 T d = true then (fa en S1).bind fun ds S2 => ofO (g d ds S2) else .no := rfl
@[simp] theorem fIsi_eq (T : String) (f : FE) : fIsi T f en S = (f en S).bind fun d S1 => match tyN S1 d with
  | some t => match kitB t T with
    | some b => .ok (.bl b) S1
    | none => .no
  | none => .no := rfl
@[simp] theorem kit_ii : kitB "int" "int" = some true := by decide
@[simp] theorem kit_ib : kitB "int" "bool" = some false := by decide
@[simp] theorem kit_bi : kitB "bool" "int" = some true := by decide
@[simp] theorem kit_bb : kitB "bool" "bool" = some true := by decide
@[simp] theorem kit_si : kitB "str" "int" = some false := by decide
@[simp] theorem kit_ni : kitB "NoneType" "int" = some false := by decide
@[simp] theorem kit_ti : kitB "tuple" "int" = some false := by decide
@[simp] theorem tyN_int (i : Int) : tyN S (.int i) = some "int" := rfl
@[simp] theorem tyN_bl (i : Bool) : tyN S (.bl i) = some "bool" := rfl
@[simp] theorem tyN_non : tyN S .non = some "NoneType" := rfl
@[simp] theorem tyN_str (x : Str) : tyN S (.str x) = some "str" := rfl
@[simp] theorem tyN_tup (x : List D) : tyN S (.tup x) = some "tuple" := rfl
@[simp] theorem tyN_lst (x : List D) : tyN S (.lst x) = some "list" := rfl
/-! statements -/
def seqF (r : Fl) (g : FS) : Fl := match r with
  | .nx e S => g e S
  | o => o
@[simp] theorem seq_nx (e : En) (S : So) (g : FS) : seqF (.nx e S) g = g e S := rfl
@[simp] theorem seq_rt (g : FS) : seqF (.rt d S) g = .rt d S := rfl
@[simp] theorem seq_bk (g : FS) : seqF (.bk e1 S) g = .bk e1 S := rfl
@[simp] theorem seq_ct (g : FS) : seqF (.ct e1 S) g = .ct e1 S := rfl
@[simp] theorem seq_ex (g : FS) : seqF (.ex C e1 S) g = .ex C e1 S := rfl
@[simp] theorem fSeq_eq (f g : FS) : fSeq f g en S = seqF (f en S) g := by
  unfold fSeq seqF; cases f en S <;> rfl
@[simp] theorem fNext_eq : fNext en S = .nx en S := rfl
@[simp] theorem fExpr_eq (f : FE) : fExpr f en S = fthen en (f en S) fun _ S1 => .nx en S1 := rfl
@[simp] theorem fRet_eq (f : FE) : fRet f en S = fthen en (f en S) fun d S1 => .rt d S1 := rfl
@[simp] theorem fRetN_eq : fRetN en S = .rt .non S := rfl
@[simp] theorem fBrk_eq : fBrk en S = .bk en S := rfl
@[simp] theorem fCnt_eq : fCnt en S = .ct en S := rfl
@[simp] theorem fIte_eq (c : FT) (f g : FS) : fIte c f g en S = fthen en (c en S) fun k S1 => if k = true then f en S1 else g en S1 := rfl
@[simp] theorem fRaise_eq : fRaise C en S = .ex C en S := rfl
@[simp] theorem flG_some (e : En) (S : So) : flG (some (e, S)) = .nx e S := rfl
@[simp] theorem flG_none : flG none = .no := rfl
@[simp] theorem fAsg_eq (f : FE) (g : FG) : fAsg f g en S = fthen en (f en S) fun d S1 => flG (g d en S1) := rfl
@[simp] theorem gtName_eq (i : Nat) : gtName i d en S = some (en.set i (some d), S) := rfl
@[simp] theorem gtNil_eq : gtNil [] en S = some (en, S) := rfl
@[simp] theorem gtCons_eq (g : FG) (h : FGs) (ds : List D) : gtCons g h (d :: ds) en S = (g d en S).bind fun p => h ds p.1 p.2 := by
  simp only [gtCons]; cases g d en S <;> rfl
@[simp] theorem gtTup_eq (n : Nat) (g : FGs) (ds : List D) : gtTup n g (.tup ds) en S = if ds.length = n then g ds en S else none := nr rfl
@[simp] theorem gtPair_eq (i j : Nat) (a b : D) : gtPair i j (.tup [a, b]) en S = some ((en.set i (some a)).set j (some b), S) := rfl
@[simp] theorem fPar_eq (i j : Nat) (fa : FA) : fPar i j fa en S = fthen en (fa en S) fun ds S1 => match ds with
  | [d1, d2] => .nx ((en.set i (some d1)).set j (some d2)) S1
  | _ => .no := rfl
@[simp] theorem fPar3_eq (i j l : Nat) (fa : FA) : fPar3 i j l fa en S = fthen en (fa en S) fun ds S1 => match ds with
  | [d1, d2, d3] => .nx (((en.set i (some d1)).set j (some d2)).set l (some d3)) S1
  | _ => .no := rfl
def nxO (en : En) (i : Nat) (r : Option (D × So)) : Fl := match r with
  | some (d, S) => .nx (en.set i (some d)) S
  | none => .no
@[simp] theorem nxO_some (i : Nat) : nxO en i (some (d, S)) = .nx (en.set i (some d)) S := rfl
def augO (o : Option (Option D)) (k : D → Fl) : Fl := match o with
  | some (some x) => k x
  | _ => .no
@[simp] theorem augO_some (k : D → Fl) : augO (some (some d)) k = k d := rfl
@[simp] theorem fAug_eq (i : Nat) (f : FE) (g : G2) : fAug i f g en S = augO en[i]? fun x => fthen en (f en S) fun y S1 => nxO en i (g x y S1) := by
  unfold fAug augO
  cases en[i]? with
  | none => rfl
  | some o => cases o with
    | none => rfl
    | some x => show fthen _ _ _ = fthen _ _ _; congr 1
def subO (r : Rs D) (k : D → So → Option (En × So)) : Option (En × So) := match r with
  | .ok o S => k o S
  | _ => none
@[simp] theorem subO_ok (k : D → So → Option (En × So)) : subO (.ok d S) k = k d S := rfl
@[simp] theorem gtSub_eq (fo fi : FE) (v : D) : gtSub fo fi v en S = subO (fo en S) fun o S1 => subO (fi en S1) fun i S2 => (gSet o i v S2).map fun S3 => (en, S3) := by
  unfold gtSub subO
  cases fo en S with
  | ok o S1 =>
    simp only
    cases fi en S1 with
    | ok i S2 => simp only; cases gSet o i v S2 <;> rfl
    | _ => rfl
  | _ => rfl
@[simp] theorem fTry_eq (K : PySem.W.Frag) (fb : FS) (hds : List (Addr × FS)) : fTry K fb hds en S = match fb en S with
  | .ex C e1 S1 => handle K C hds e1 S1
  | o => o := rfl
@[simp] theorem fFor_eq (m : Nat) (fi : FI) (g : FG) (b : FS) : fFor m fi g b en S = fthen en (fi en S) fun t S1 => match t with
  | .items ds => forL g b ds en S1
  | .live n => forR g b n m 0 en S1 := rfl
@[simp] theorem fiSeq_eq (f : FE) : fiSeq f en S = (f en S).bind fun d S1 => ofI (iterOf S1 d) S1 := rfl
@[simp] theorem ofI_some (t : ItD) : ofI (some t) S = .ok t S := rfl
@[simp] theorem iterOf_lst (ds : List D) : iterOf S (.lst ds) = some (.items ds) := rfl
@[simp] theorem iterOf_tup (ds : List D) : iterOf S (.tup ds) = some (.items ds) := rfl
@[simp] theorem fiRng1_eq (fa : FA) : fiRng1 fa en S = (fa en S).bind fun ds S1 => match ds with
  | [.int j] => if -(2 ^ 62) ≤ j ∧ j < 2 ^ 62 then .ok (.items (rgD 0 j.toNat)) S1 else .no
  | _ => .no := nr rfl
@[simp] theorem fiRng2_eq (fa : FA) : fiRng2 fa en S = (fa en S).bind fun ds S1 => match ds with
  | [.int i, .int j] => if -(2 ^ 62) ≤ i ∧ i < 2 ^ 62 ∧ -(2 ^ 62) ≤ j ∧ j < 2 ^ 62 then .ok (.items (rgD i (j - i).toNat)) S1 else .no
  | _ => .no := nr rfl
@[simp] theorem fiEnum_eq (fa : FA) : fiEnum fa en S = (fa en S).bind fun ds S1 => match ds with
  | [.lst xs] => .ok (.items (enumD 0 xs)) S1
  | _ => .no := rfl
@[simp] theorem fLc_eq (m : Nat) (mu : Bool) (vs : List Nat) (fi : FI) (g : FG) (c : FT) (f : FE) : fLc m mu vs fi g c f en S = (fi en S).bind fun t S1 => (noX (lcT m g c f (wipeD en vs) t S1)).bind fun ds S2 => ofO (some (newL mu ds S2)) := rfl
@[simp] theorem noX_ok (ds : List D) : noX (.ok ds S) = .ok ds S := rfl
@[simp] theorem lcT_items (m : Nat) (g : FG) (c : FT) (f : FE) (ds : List D) : lcT m g c f en (.items ds) S = lcL g c f en ds [] S := rfl
@[simp] theorem fYes_eq : fYes en S = .ok true S := rfl
@[simp] theorem wipe_nil : wipeD en [] = en := rfl
@[simp] theorem wipe_cons (v : Nat) (vs : List Nat) : wipeD en (v :: vs) = (wipeD en vs).set v none := rfl
@[simp] theorem fLstRg1_eq (mu : Bool) (f : FE) : fLstRg1 mu f en S = (f en S).bind fun d S1 => asI d fun n => if okRg 0 n = true then ofO (some (newL mu (rgD 0 (n - 0).toNat) S1)) else .no := nr rfl
@[simp] theorem fTupRg1_eq (f : FE) : fTupRg1 f en S = (f en S).bind fun d S1 => asI d fun n => if okRg 0 n = true then .ok (.tup (rgD 0 (n - 0).toNat)) S1 else .no := nr rfl
/-! operators -/
@[simp] theorem gAdd_int (mu : Bool) (i j : Int) : gAdd mu (.int i) (.int j) S = some (.int (i + j), S) := rfl
@[simp] theorem gMinus_int (i j : Int) : gMinus (.int i) (.int j) S = some (.int (i - j), S) := rfl
@[simp] theorem gI_int (g : Int → Int → Int) (i j : Int) : gI g (.int i) (.int j) S = some (.int (g i j), S) := rfl
@[simp] theorem gIc_int (c : Int → Int → Bool) (g : Int → Int → Int) (i j : Int) : gIc c g (.int i) (.int j) S = if c i j = true then some (.int (g i j), S) else none := nr rfl
@[simp] theorem gMul_int (mu : Bool) (i j : Int) : gMul mu (.int i) (.int j) S = if cMul i j = true then some (.int (i * j), S) else none := nr rfl
@[simp] theorem gFdiv_int (i j : Int) : gFdiv (.int i) (.int j) S = if (decide (0 < j) && decide (j < 1073741824)) = true then some (.int (i / j), S) else none := nr rfl
@[simp] theorem gMod_int (i j : Int) : gMod (.int i) (.int j) S = if decide (0 < j) = true then some (.int (i % j), S) else none := nr rfl
@[simp] theorem gPow_int (i j : Int) : gPow (.int i) (.int j) S = if (decide (0 ≤ j) && decide (j ≤ 1000000) && decide (i.natAbs < 2 ^ 64)) = true then some (.int (i ^ j.toNat), S) else none := nr rfl
@[simp] theorem gLt_int (i j : Int) : gLt (.int i) (.int j) S = some (.bl (decide (i < j)), S) := nr rfl
@[simp] theorem gLe_int (i j : Int) : gLe (.int i) (.int j) S = some (.bl (decide (i ≤ j)), S) := nr rfl
@[simp] theorem gGe_int (i j : Int) : gGe (.int i) (.int j) S = some (.bl (decide (j ≤ i)), S) := nr rfl
@[simp] theorem gGtA_int (i j : Int) : gGtA (.int i) (.int j) S = some (.bl (decide (j < i)), S) := nr rfl
@[simp] theorem gIs_non (d : D) : gIs d .non S = some (.bl (isNon d), S) := rfl
@[simp] theorem gIsNot_non (d : D) : gIsNot d .non S = some (.bl (!isNon d), S) := rfl
@[simp] theorem gLen_lst (xs : List D) : gLen [.lst xs] S = some (.int xs.length, S) := rfl
@[simp] theorem gLen_tup (xs : List D) : gLen [.tup xs] S = some (.int xs.length, S) := rfl
@[simp] theorem gAbs_int (i : Int) : gAbs [.int i] S = some (.int (if i < 0 then -i else i), S) := rfl
@[simp] theorem gInt_int (i : Int) : gInt [.int i] S = some (.int i, S) := rfl
@[simp] theorem gInt_bl (k : Bool) : gInt [.bl k] S = some (.int (if k then 1 else 0), S) := rfl
@[simp] theorem gMin_2 (i j : Int) : gMin [.int i, .int j] S = some (.int (if j < i then j else i), S) := rfl
@[simp] theorem gMax_2 (i j : Int) : gMax [.int i, .int j] S = some (.int (if j > i then j else i), S) := rfl
@[simp] theorem gMin_ints (ns : List Int) : gMin [.lst (ns.map D.int)] S = if ns = [] then none else some (.int (leastI ns), S) := by
  simp [gMin, lsOf, intsOf_map]
@[simp] theorem gMax_ints (ns : List Int) : gMax [.lst (ns.map D.int)] S = if ns = [] then none else some (.int (mostI ns), S) := by
  simp [gMax, lsOf, intsOf_map]
@[simp] theorem gSum_ints (ns : List Int) : gSum [.lst (ns.map D.int)] S = some (.int ns.sum, S) := by
  simp [gSum, lsOf, intsOf_map]
@[simp] theorem gSorted_ints (mu : Bool) (ns : List Int) : gSorted mu [.lst (ns.map D.int)] S = some (newL mu ((isort ns).map D.int) S) := by
  simp [gSorted, lsOf, intsOf_map]
@[simp] theorem gList_lst (mu : Bool) (xs : List D) : gList mu [.lst xs] S = some (newL mu xs S) := rfl
@[simp] theorem gList_tup (mu : Bool) (xs : List D) : gList mu [.tup xs] S = some (newL mu xs S) := rfl
@[simp] theorem gTuple_lst (xs : List D) : gTuple [.lst xs] S = some (.tup xs, S) := rfl
@[simp] theorem gTuple_tup (xs : List D) : gTuple [.tup xs] S = some (.tup xs, S) := rfl
theorem sizeLine_val : sizeLine = 16777216 := sizeLine_eq
theorem small_le {n : Nat} (h : n ≤ 16777216) : n ≤ sizeLine := by rw [sizeLine_eq]; exact h
theorem small_lt {n : Nat} (h : n < 16777216) : n < sizeLine := by rw [sizeLine_eq]; exact h
@[simp] theorem start_eq (N : List Str) (ds : List D) : startD N ds = ds.map some ++ List.replicate (N.length - ds.length) none := rfl
end eqs
end PF

namespace PF
open PySem L2
variable [Tab]
/-- the law's start: the script alone -/
theorem law_start {K : PySem.W.Frag} {F : FN} {H : Hp} {a : Addr} {ns : List Int} {m : Nat} (hF : ∀ ns : List Int, ns.length ≤ m → ∃ S, F [.scr ns] [] = .ok (.bl true) S) (hl : ns.length ≤ m) (hS : SqL K H a (ns.map V.int)) (hT : LamX.Tabs Tab.T H) :
    spD K F 1 [.ref a] H (fun v _ => v = .bl true) fun _ _ _ => False := by
  have hz : (∃ o, H a = some (.frz o (.lst (ns.map V.int)))) ∨ KL K a (ns.map V.int) ∨ H a = some (.lst (ns.map V.int)) := by
    rcases hS with (h | ⟨o, h⟩) | h
    · exact .inr (.inr h)
    · exact .inl ⟨o, h⟩
    · exact .inr (.inl h)
  refine ⟨rfl, ⟨[], fun b => b = a ∧ H a = some (.lst (ns.map V.int)), fun _ => False⟩, [], [.scr ns], ?_, ?_, ?_⟩
  · exact ⟨hT, rfl, by simp, fun n a h => by simp at h, fun b h => by rw [h.1, h.2]; exact ⟨_, rfl, (fun ps q => by cases q), (fun f q => by cases q)⟩, fun n a h => by simp at h, fun a h => h.elim, fun n a o h => by simp at h⟩
  · refine DRels.cons ?_ DRels.nil
    unfold DRel
    exact ⟨a, rfl, hz.imp id (Or.imp id fun q => ⟨⟨rfl, q⟩, q⟩)⟩
  · obtain ⟨S, h⟩ := hF ns hl
    rw [h]
    intro W' H' v _ _ r
    unfold DRel at r
    exact r
end PF

namespace PF
open PySem L2
variable [Tab]
section eqs
variable {en : En} {S J : So} {d v : D} {n k : Nat} {o : O}
/-- the list at a place of the store -/
def lstOf : Option O → Option (List D)
  | some (.lst xs) => some xs
  | _ => none
@[simp] theorem lstOf_lst (xs : List D) : lstOf (some (.lst xs)) = some xs := rfl
@[simp] theorem lsOf_ref : lsOf S (.ref n) = lstOf S[n]? := rfl
@[simp] theorem lsOf_lst (xs : List D) : lsOf S (.lst xs) = some xs := rfl
@[simp] theorem sqOf_ref : sqOf S (.ref n) = lstOf S[n]? := lsOf_ref
@[simp] theorem sqOf_lst (xs : List D) : sqOf S (.lst xs) = some xs := rfl
@[simp] theorem sqOf_tup (xs : List D) : sqOf S (.tup xs) = some xs := rfl
theorem atL_ref : atL S (.ref n) = (lstOf S[n]?).map fun xs => (n, xs) := by
  simp only [atL]
  generalize S[n]? = q
  cases q with
  | none => rfl
  | some o => cases o <;> rfl
@[simp] theorem gIx_ref (i : Int) : gIx (.ref n) (.int i) S = (lstOf S[n]?).bind fun xs => (atI xs i).map fun d => (d, S) := by
  simp only [gIx, sqOf_ref]; cases lstOf S[n]? with
  | none => rfl
  | some xs => simp only [Option.bind]; cases atI xs i <;> rfl
@[simp] theorem gIx_lst (xs : List D) (i : Int) : gIx (.lst xs) (.int i) S = (atI xs i).map fun d => (d, S) := by
  simp only [gIx, sqOf_lst]; cases atI xs i <;> rfl
@[simp] theorem gIx_tup (xs : List D) (i : Int) : gIx (.tup xs) (.int i) S = (atI xs i).map fun d => (d, S) := by
  simp only [gIx, sqOf_tup]; cases atI xs i <;> rfl
@[simp] theorem gSet_ref (i : Int) : gSet (.ref n) (.int i) v S = (lstOf S[n]?).bind fun xs => (ixN xs.length i).map fun j => S.set n (.lst (xs.set j v)) := by
  simp only [gSet, atL_ref]; cases lstOf S[n]? with
  | none => rfl
  | some xs => simp only [Option.bind, Option.map]; cases ixN xs.length i <;> rfl
@[simp] theorem gAppend_ref : gAppend (.ref n) [d] S = (lstOf S[n]?).bind fun xs => if xs.length < sizeLine then some (.non, S.set n (.lst (xs ++ [d]))) else none := by
  simp only [gAppend, atL_ref]; cases lstOf S[n]? <;> rfl
@[simp] theorem gPop_ref : gPop (.ref n) [] S = (lstOf S[n]?).bind fun xs => (xs[xs.length - 1]?).map fun y => (y, S.set n (.lst xs.dropLast)) := by
  simp only [gPop, atL_ref]; cases lstOf S[n]? with
  | none => rfl
  | some xs => simp only [Option.bind, Option.map]; cases xs[xs.length - 1]? <;> rfl
@[simp] theorem gPopAt_ref (i : Int) : gPopAt (.ref n) [.int i] S = (lstOf S[n]?).bind fun xs => if -(2 ^ 63) ≤ i ∧ i < 2 ^ 63 then (ixN xs.length i).bind fun j => (xs[j]?).map fun y => (y, S.set n (.lst (xs.eraseIdx j))) else none := by
  simp only [gPopAt, atL_ref]; cases lstOf S[n]? with
  | none => rfl
  | some xs =>
    simp only [Option.bind, Option.map]
    split
    · cases ixN xs.length i with
      | none => rfl
      | some j => simp only; cases xs[j]? <;> rfl
    · rfl
@[simp] theorem gExtend_ref : gExtend (.ref n) [d] S = (lstOf S[n]?).bind fun xs => (lsOf S d).bind fun ys => if xs.length + ys.length ≤ sizeLine then some (.non, S.set n (.lst (xs ++ ys))) else none := by
  simp only [gExtend, atL_ref]; cases lstOf S[n]? with
  | none => rfl
  | some xs => simp only [Option.bind, Option.map]; cases lsOf S d <;> rfl
@[simp] theorem isTy_ref : isTy S "list" (.ref n) = (lstOf S[n]?).isSome := by
  simp only [isTy]
  generalize S[n]? = q
  cases q with
  | none => rfl
  | some o => cases o <;> first | rfl | decide
@[simp] theorem isTy_lst (xs : List D) : isTy S "list" (.lst xs) = true := rfl
/-- how many -/
def lenOf : Option O → Option Int
  | some (.lst xs) => some xs.length
  | some (.dic xs) => some xs.length
  | _ => none
@[simp] theorem lenOf_lst (xs : List D) : lenOf (some (.lst xs)) = some (xs.length : Int) := rfl
@[simp] theorem lenOf_dic (xs : List (Key × D)) : lenOf (some (.dic xs)) = some (xs.length : Int) := rfl
@[simp] theorem gLen_ref : gLen [.ref n] S = (lenOf S[n]?).map fun i => (.int i, S) := by
  simp only [gLen]
  generalize S[n]? = q
  cases q with
  | none => rfl
  | some o => cases o <;> rfl
@[simp] theorem gTuple_ref : gTuple [.ref n] S = (lstOf S[n]?).map fun xs => (.tup xs, S) := by
  simp only [gTuple, sqOf_ref]; cases lstOf S[n]? <;> rfl
@[simp] theorem gList_ref (mu : Bool) : gList mu [.ref n] S = (lstOf S[n]?).map fun xs => newL mu xs S := by
  simp only [gList, sqOf_ref]; cases lstOf S[n]? <;> rfl
/-! places of the store -/
@[simp] theorem get_at0 : (S ++ J)[S.length]? = J[0]? := by simp [List.getElem?_append_right]
@[simp] theorem get_atk (k : Nat) : (S ++ J)[S.length + k]? = J[k]? := by
  rw [List.getElem?_append_right (by omega)]; congr 1; omega
@[simp] theorem set_at0 : (S ++ J).set S.length o = S ++ J.set 0 o := by rw [List.set_append]; simp
@[simp] theorem set_atk (k : Nat) : (S ++ J).set (S.length + k) o = S ++ J.set k o := by
  rw [List.set_append, if_neg (by omega)]; congr 2; omega
/-! == -/
theorem eqD_int (i j : Int) : eqD S (.int i) (.int j) = some (decide (i = j)) := by
  simp only [eqD, pdOf, pd0]
  rw [if_pos ⟨rfl, rfl⟩]
  simp only [PyData.eqv, Bool.beq_eq_decide_eq]
@[simp] theorem gEq_int (i j : Int) : gEq (.int i) (.int j) S = some (.bl (decide (i = j)), S) := by simp only [gEq, eqD_int]
@[simp] theorem gNe_int (i j : Int) : gNe (.int i) (.int j) S = some (.bl (!decide (i = j)), S) := by simp only [gNe, eqD_int]
theorem pds_ints : ∀ ns : List Int, pds (ns.map D.int) = some (ns.map PyData.int)
  | [] => rfl
  | n :: ns => by simp only [List.map_cons, pds, pd0, pds_ints ns]
theorem eqvAll_ints : ∀ ns ms : List Int, PyData.eqvAll (ns.map PyData.int) (ms.map PyData.int) = decide (ns = ms)
  | [], [] => rfl
  | [], m :: ms => by simp [PyData.eqvAll]
  | n :: ns, [] => by simp [PyData.eqvAll]
  | n :: ns, m :: ms => by
    simp only [List.map_cons, PyData.eqvAll, PyData.eqv, eqvAll_ints ns ms, Bool.beq_eq_decide_eq]
    by_cases h : n = m <;> by_cases h2 : ns = ms <;> simp [h, h2]
theorem canLay_ints : ∀ ns : List Int, PyData.canLayAll0 (ns.map PyData.int) = true
  | [] => rfl
  | n :: ns => by simp only [List.map_cons, PyData.canLayAll0, PyData.canLay0, canLay_ints ns, Bool.and_self]
/-! loops -/
theorem while_true {c : FT} {b : FS} {m : Nat} {e2 : En} {S1 S2 : So} (hc : c en S = .ok true S1) (hb : b en S1 = .nx e2 S2) : fWhile c b (m + 1) en S = fWhile c b m e2 S2 := by
  simp only [fWhile, hc, then_ok, if_true, hb]
theorem while_cont {c : FT} {b : FS} {m : Nat} {e2 : En} {S1 S2 : So} (hc : c en S = .ok true S1) (hb : b en S1 = .ct e2 S2) : fWhile c b (m + 1) en S = fWhile c b m e2 S2 := by
  simp only [fWhile, hc, then_ok, if_true, hb]
theorem while_brk {c : FT} {b : FS} {m : Nat} {e2 : En} {S1 S2 : So} (hc : c en S = .ok true S1) (hb : b en S1 = .bk e2 S2) : fWhile c b (m + 1) en S = .nx e2 S2 := by
  simp only [fWhile, hc, then_ok, if_true, hb]
theorem while_ret {c : FT} {b : FS} {m : Nat} {S1 S2 : So} (hc : c en S = .ok true S1) (hb : b en S1 = .rt d S2) : fWhile c b (m + 1) en S = .rt d S2 := by
  simp only [fWhile, hc, then_ok, if_true, hb]
theorem while_ex {c : FT} {b : FS} {m : Nat} {C : Addr} {e2 : En} {S1 S2 : So} (hc : c en S = .ok true S1) (hb : b en S1 = .ex C e2 S2) : fWhile c b (m + 1) en S = .ex C e2 S2 := by
  simp only [fWhile, hc, then_ok, if_true, hb]
theorem while_false {c : FT} {b : FS} {m : Nat} {S1 : So} (hc : c en S = .ok false S1) : fWhile c b (m + 1) en S = .nx en S1 := by
  simp only [fWhile, hc, then_ok, Bool.false_eq_true, if_false]
theorem for_nil {g : FG} {b : FS} : forL g b [] en S = .nx en S := rfl
theorem for_cons {g : FG} {b : FS} {ds : List D} {e1 e2 : En} {S1 S2 : So} (hg : g d en S = some (e1, S1)) (hb : b e1 S1 = .nx e2 S2) : forL g b (d :: ds) en S = forL g b ds e2 S2 := by
  simp only [forL, hg, hb]
theorem for_cont {g : FG} {b : FS} {ds : List D} {e1 e2 : En} {S1 S2 : So} (hg : g d en S = some (e1, S1)) (hb : b e1 S1 = .ct e2 S2) : forL g b (d :: ds) en S = forL g b ds e2 S2 := by
  simp only [forL, hg, hb]
theorem for_ret {g : FG} {b : FS} {ds : List D} {v : D} {e1 : En} {S1 S2 : So} (hg : g d en S = some (e1, S1)) (hb : b e1 S1 = .rt v S2) : forL g b (d :: ds) en S = .rt v S2 := by
  simp only [forL, hg, hb]
theorem for_ex {g : FG} {b : FS} {ds : List D} {C : Addr} {e1 e2 : En} {S1 S2 : So} (hg : g d en S = some (e1, S1)) (hb : b e1 S1 = .ex C e2 S2) : forL g b (d :: ds) en S = .ex C e2 S2 := by
  simp only [forL, hg, hb]
theorem for_brk {g : FG} {b : FS} {ds : List D} {e1 e2 : En} {S1 S2 : So} (hg : g d en S = some (e1, S1)) (hb : b e1 S1 = .bk e2 S2) : forL g b (d :: ds) en S = .nx e2 S2 := by
  simp only [forL, hg, hb]
end eqs
end PF

namespace PF
open PySem L2
variable [Tab]
/-! ranges whose ends are no numerals: the bounds are looked at once, at a variable -/
section rngs
variable {en : En} {S S1 : So}
theorem rng1_at {fa : FA} {j : Int} {n : Nat} (h : fa en S = .ok [.int j] S1) (hj : j = (n : Int)) (hn : n < 1000000000) : fiRng1 fa en S = .ok (.items (rgD 0 n)) S1 := by
  have hb : (-(2 ^ 62) : Int) ≤ j ∧ j < 2 ^ 62 := by omega
  have ht : j.toNat = n := by omega
  clear hj hn
  rw [fiRng1_eq, h, bind_ok]
  subst ht
  exact if_pos hb
theorem rng2_at {fa : FA} {i j : Int} {n : Nat} (h : fa en S = .ok [.int i, .int j] S1) (hi : -1000000000 ≤ i ∧ i < 1000000000) (hj : -1000000000 ≤ j ∧ j < 1000000000) (hn : (j - i).toNat = n) : fiRng2 fa en S = .ok (.items (rgD i n)) S1 := by
  have hb : (-(2 ^ 62) : Int) ≤ i ∧ i < 2 ^ 62 ∧ -(2 ^ 62) ≤ j ∧ j < 2 ^ 62 := by omega
  clear hi hj
  rw [fiRng2_eq, h, bind_ok]
  subst hn
  exact if_pos hb
theorem lrg_at {f : FE} {j : Int} {n : Nat} {mu : Bool} (h : f en S = .ok (.int j) S1) (hj : j = (n : Int)) (hn : n ≤ 1000000) : fLstRg1 mu f en S = ofO (some (newL mu (rgD 0 n) S1)) := by
  have hb : okRg 0 j = true := by
    simp only [okRg, sizeLine_val, Bool.and_eq_true, decide_eq_true_eq]
    omega
  have ht : (j - 0).toNat = n := by omega
  clear hj hn
  rw [fLstRg1_eq, h, bind_ok, asI_int]
  subst ht
  exact if_pos hb
theorem trg_at {f : FE} {j : Int} {n : Nat} (h : f en S = .ok (.int j) S1) (hj : j = (n : Int)) (hn : n ≤ 1000000) : fTupRg1 f en S = .ok (.tup (rgD 0 n)) S1 := by
  have hb : okRg 0 j = true := by
    simp only [okRg, sizeLine_val, Bool.and_eq_true, decide_eq_true_eq]
    omega
  have ht : (j - 0).toNat = n := by omega
  clear hj hn
  rw [fTupRg1_eq, h, bind_ok, asI_int]
  subst ht
  exact if_pos hb
end rngs
end PF

namespace PF
open PySem L2
variable [Tab]
/-! == of data at any depth -/
def eqq (a b : D) : Bool := match pd0 a, pd0 b with
  | some x, some y => PyData.eqv x y
  | _, _ => false
def eqqs (a b : List D) : Bool := match pds a, pds b with
  | some x, some y => PyData.eqvAll x y
  | _, _ => false
def gud (n : Nat) (d : D) : Prop := ∃ x, pd0 d = some x ∧ x.canLay0 = true ∧ x.depth ≤ n
def guds (n : Nat) (d : List D) : Prop := ∃ x, pds d = some x ∧ PyData.canLayAll0 x = true ∧ PyData.depthAll x ≤ n
theorem gud.up {n m : Nat} {d : D} (h : gud n d) (l : n ≤ m) : gud m d := by obtain ⟨x, a, b, c⟩ := h; exact ⟨x, a, b, by omega⟩
theorem gud_non (n : Nat) : gud n .non := ⟨_, rfl, rfl, Nat.zero_le _⟩
theorem gud_bl (n : Nat) (b : Bool) : gud n (.bl b) := ⟨_, rfl, rfl, Nat.zero_le _⟩
theorem gud_int (n : Nat) (i : Int) : gud n (.int i) := ⟨_, rfl, rfl, Nat.zero_le _⟩
theorem guds_nil (n : Nat) : guds n [] := ⟨_, rfl, rfl, Nat.zero_le _⟩
theorem guds_cons {n : Nat} {d : D} {ds : List D} (h : gud n d) (k : guds n ds) : guds n (d :: ds) := by
  obtain ⟨x, a, b, c⟩ := h
  obtain ⟨y, e, f, g⟩ := k
  refine ⟨x :: y, by simp only [pds, a, e], by simp only [PyData.canLayAll0, b, f, Bool.and_self], ?_⟩
  simp only [PyData.depthAll]; omega
theorem guds_all {n : Nat} : ∀ {ds : List D}, (∀ d ∈ ds, gud n d) → guds n ds
  | [], _ => guds_nil n
  | d :: ds, h => guds_cons (h d (by simp)) (guds_all fun x hx => h x (by simp [hx]))
theorem gud_tup {n : Nat} {ds : List D} (h : guds n ds) : gud (n + 1) (.tup ds) := by
  obtain ⟨y, e, f, g⟩ := h
  exact ⟨.tuple y, by simp only [pd0, e], by simp only [PyData.canLay0, f], by simp only [PyData.depth]; omega⟩
theorem gud_lst {n : Nat} {ds : List D} (h : guds n ds) : gud (n + 1) (.lst ds) := by
  obtain ⟨y, e, f, g⟩ := h
  exact ⟨.list y, by simp only [pd0, e], by simp only [PyData.canLay0, f], by simp only [PyData.depth]; omega⟩
theorem guds_ints (n : Nat) (ns : List Int) : guds n (ns.map D.int) := guds_all fun d h => by
  obtain ⟨i, _, rfl⟩ := List.mem_map.mp h
  exact gud_int n i
theorem eqq_self {n : Nat} {d : D} (h : gud n d) : eqq d d = true := by
  obtain ⟨x, a, b, _⟩ := h
  simp only [eqq, a]
  exact SeqAt.eqv_refl x b
theorem eqD_gud {n : Nat} {S : So} {a b : D} (h : gud n a) (k : gud n b) (hn : n ≤ 64) : eqD S a b = some (eqq a b) := by
  obtain ⟨x, h1, h2, h3⟩ := h
  obtain ⟨y, k1, k2, k3⟩ := k
  have p1 : pdOf S a = some x := by
    cases a with
    | ref n => simp [pd0] at h1
    | _ => simpa [pdOf] using h1
  have p2 : pdOf S b = some y := by
    cases b with
    | ref n => simp [pd0] at k1
    | _ => simpa [pdOf] using k1
  simp only [eqD, p1, p2, eqq, h1, k1]
  rw [if_pos]
  unfold SeqAt.shaped
  simp only [h2, k2, Bool.true_and, decide_eq_true_eq]
  omega
theorem pdOf_ref {S : So} {n : Nat} {ds : List D} (h : S[n]? = some (.lst ds)) : pdOf S (.ref n) = pdOf S (.lst ds) := by
  simp only [pdOf, h, pd0]
theorem eqD_refl {S : So} {n : Nat} {b : D} {ds : List D} (h : S[n]? = some (.lst ds)) : eqD S (.ref n) b = eqD S (.lst ds) b := by
  simp only [eqD, pdOf_ref h]
theorem eqD_refr {S : So} {n : Nat} {b : D} {ds : List D} (h : S[n]? = some (.lst ds)) : eqD S b (.ref n) = eqD S b (.lst ds) := by
  simp only [eqD, pdOf_ref h]
theorem gEq_gud {n : Nat} {S : So} {a b : D} (h : gud n a) (k : gud n b) (hn : n ≤ 64) : gEq a b S = some (.bl (eqq a b), S) := by
  simp only [gEq, eqD_gud h k hn]
theorem gNe_gud {n : Nat} {S : So} {a b : D} (h : gud n a) (k : gud n b) (hn : n ≤ 64) : gNe a b S = some (.bl (!eqq a b), S) := by
  simp only [gNe, eqD_gud h k hn]
theorem gEq_refl {S : So} {n : Nat} {b : D} {ds : List D} (h : S[n]? = some (.lst ds)) : gEq (.ref n) b S = gEq (.lst ds) b S := by
  simp only [gEq, eqD_refl h]
theorem gEq_refr {S : So} {n : Nat} {b : D} {ds : List D} (h : S[n]? = some (.lst ds)) : gEq b (.ref n) S = gEq b (.lst ds) S := by
  simp only [gEq, eqD_refr h]
theorem gNe_refl {S : So} {n : Nat} {b : D} {ds : List D} (h : S[n]? = some (.lst ds)) : gNe (.ref n) b S = gNe (.lst ds) b S := by
  simp only [gNe, eqD_refl h]
theorem gNe_refr {S : So} {n : Nat} {b : D} {ds : List D} (h : S[n]? = some (.lst ds)) : gNe b (.ref n) S = gNe b (.lst ds) S := by
  simp only [gNe, eqD_refr h]
theorem gNe_self {n : Nat} {S : So} {a : D} (h : gud n a) (hn : n ≤ 64) : gNe a a S = some (.bl false, S) := by
  rw [gNe_gud h h hn, eqq_self h]; rfl
theorem gEq_self {n : Nat} {S : So} {a : D} (h : gud n a) (hn : n ≤ 64) : gEq a a S = some (.bl true, S) := by
  rw [gEq_gud h h hn, eqq_self h]
/-! its value -/
theorem eqq_int (i j : Int) : eqq (.int i) (.int j) = decide (i = j) := by
  simp only [eqq, pd0, PyData.eqv, Bool.beq_eq_decide_eq]
theorem eqq_nn : eqq .non .non = true := rfl
theorem eqq_ni (i : Int) : eqq .non (.int i) = false := by simp only [eqq, pd0, PyData.eqv]
theorem eqq_in (i : Int) : eqq (.int i) .non = false := by simp only [eqq, pd0, PyData.eqv]
theorem eqq_tn (ds : List D) : eqq (.tup ds) .non = false := by
  simp only [eqq, pd0]; cases pds ds <;> simp only [PyData.eqv]
theorem eqq_nt (ds : List D) : eqq .non (.tup ds) = false := by
  simp only [eqq, pd0]; cases pds ds <;> simp only [PyData.eqv]
theorem eqq_tt (xs ys : List D) : eqq (.tup xs) (.tup ys) = eqqs xs ys := by
  simp only [eqq, eqqs, pd0]
  cases pds xs with
  | none => rfl
  | some a => cases pds ys with
    | none => rfl
    | some b => simp only [PyData.eqv]
theorem eqq_ll (xs ys : List D) : eqq (.lst xs) (.lst ys) = eqqs xs ys := by
  simp only [eqq, eqqs, pd0]
  cases pds xs with
  | none => rfl
  | some a => cases pds ys with
    | none => rfl
    | some b => simp only [PyData.eqv]
theorem eqqs_nn : eqqs [] [] = true := rfl
theorem eqqs_cc (x y : D) (xs ys : List D) : eqqs (x :: xs) (y :: ys) = (eqq x y && eqqs xs ys) := by
  simp only [eqq, eqqs, pds]
  cases pd0 x with
  | none => simp
  | some a => cases pd0 y with
    | none => cases pds xs <;> simp
    | some b => cases pds xs with
      | none => simp
      | some c => cases pds ys with
        | none => simp
        | some d => simp only [PyData.eqvAll]
theorem eqqs_ints (ns ms : List Int) : eqqs (ns.map D.int) (ms.map D.int) = decide (ns = ms) := by
  simp only [eqqs, pds_ints, eqvAll_ints]
theorem ne_ints (ns ms : List Int) (S : So) : gNe (.lst (ns.map D.int)) (.lst (ms.map D.int)) S = some (.bl (!decide (ns = ms)), S) := by
  rw [gNe_gud (gud_lst (guds_ints 0 ns)) (gud_lst (guds_ints 0 ms)) (by decide), eqq_ll, eqqs_ints]
theorem eq_ints (ns ms : List Int) (S : So) : gEq (.lst (ns.map D.int)) (.lst (ms.map D.int)) S = some (.bl (decide (ns = ms)), S) := by
  rw [gEq_gud (gud_lst (guds_ints 0 ns)) (gud_lst (guds_ints 0 ms)) (by decide), eqq_ll, eqqs_ints]
/-! ranges and slices -/
theorem rgD_cons (a : Int) (n : Nat) : rgD a (n + 1) = .int a :: rgD (a + 1) n := by
  unfold rgD
  rw [List.range_succ_eq_map]
  simp only [List.map_cons, List.map_map]
  congr 1
  · simp
  · apply List.map_congr_left
    intro i _
    simp only [Function.comp]
    congr 1
    omega
theorem cut_nat (ns : List Int) (a b : Nat) (h : a ≤ b) : cutD (ns.map D.int) (some (a : Int)) (some (b : Int)) = ((ns.drop a).take (b - a)).map D.int := by
  unfold cutD
  rw [HT.sIx_nat, HT.sIx_nat, List.length_map, ← List.map_drop, ← List.map_take]
  congr 1
  by_cases c : a ≤ ns.length
  · rw [Nat.min_eq_left c]
    by_cases c2 : b ≤ ns.length
    · rw [Nat.min_eq_left c2]
    · rw [Nat.min_eq_right (by omega), List.take_of_length_le (by simp), List.take_of_length_le (by simp; omega)]
  · rw [Nat.min_eq_right (by omega), List.drop_of_length_le (by omega), List.drop_of_length_le (by omega)]
    simp
theorem sl_nat (mu : Bool) (ns : List Int) (a b : Nat) (h : a ≤ b) (S : So) : gSl mu (.lst (ns.map D.int)) (some (a : Int)) (some (b : Int)) S = some (newL mu (((ns.drop a).take (b - a)).map D.int) S) := by
  rw [← cut_nat ns a b h]; rfl
/-! + of lists -/
theorem add_lst (mu : Bool) (xs ys : List D) (S : So) (h : xs.length + ys.length ≤ 16777216) : gAdd mu (.lst xs) (.lst ys) S = some (newL mu (xs ++ ys) S) := by
  unfold gAdd
  simp only [lsOf_lst]
  rw [if_pos (small_le h)]
end PF

namespace PF
open PySem L2
variable [Tab]
/-! ### a lambda handed to a def of the law: told(lambda: body) -/
section lam
variable {K : PySem.W.Frag} {W : Wd} {H H1 : Hp} {S : So}
theorem ext_tab (s : SRel K W H S) (e : LamX.ExtN H H1) : Ext K W H W H1 where
  m := fun _ _ h => h
  fz := fun _ h => h
  tup := fun a vs h => by
    rcases h with (h | ⟨u, h⟩) | h
    · exact .inl (.inl (e _ _ h fun ps q => by cases q))
    · exact .inl (.inr ⟨u, e _ _ h fun ps q => by cases q⟩)
    · exact .inr h
  lst := fun a vs _ h => e _ _ h fun ps q => by cases q
  scr := fun a o vs h => e _ _ h fun ps q => by cases q
  rs := fun a h => by
    obtain ⟨⟨o, h1, h2, _⟩, _⟩ := s.rsd a h
    exact ⟨h, by rw [h1]; exact e _ _ h1 h2⟩
theorem srel_tab (s : SRel K W H S) (e : LamX.ExtN H H1) (t : LamX.Tabs Tab.T H1) : SRel K W H1 S where
  tab := t
  len := s.len
  inj := s.inj
  dom := fun n a h => by
    obtain ⟨o, h1, h2, _⟩ := mu_nt (s.dom n a h)
    have := s.dom n a h
    rw [e _ _ h1 h2]; rw [h1] at this; exact this
  fzd := fun a h => by
    obtain ⟨o, h1, h2, h3⟩ := s.fzd a h
    exact ⟨o, e _ _ h1 h2, h2, h3⟩
  dis := s.dis
  rsd := fun a h => by
    obtain ⟨⟨o, h1, h2, h3⟩, r⟩ := s.rsd a h
    exact ⟨⟨o, e _ _ h1 h2, h2, h3⟩, r⟩
  obj := fun n a ob h h' => (s.obj n a ob h h').ext (ext_tab s e).toExt0 (by
    obtain ⟨o, h1, h2, _⟩ := mu_nt (s.dom n a h)
    rw [h1]; exact e _ _ h1 h2)
def tyX (K : PySem.W.Frag) (fb : FE) (E : XK) : TE := fun σ H Q => ∃ W en S, ERel K W H en σ ∧ SRel K W H S ∧ Post K DRel W H (fb en S) Q E
theorem pe_tyX {X : Cx} {e : Expr} {fb : FE} {E : XK} (h : PFE X (fun c d _ H => E c d H) e fb) : PE X e (tyX X.K fb E) := ⟨fun pins s σ H Q I ⟨W, en, S, he, hs, hp⟩ => h.run W H σ en S Q he hs hp pins s I⟩
end lam
/-- what the def tells of an exception -/
def tellX (K : PySem.W.Frag) (C : Addr) : List (Addr × D) → So → Rs D
  | [], _ => .no
  | (C1, r) :: l, S => match PySem.W.exmOne K (.ref C) (.ref C1) with
    | some true => .ok r S
    | some false => tellX K C l S
    | none => .no
def tellR (K : PySem.W.Frag) (l : List (Addr × D)) (k : D → So → Rs D) : Rs D → Rs D
  | .ok d S => k d S
  | .ex C S => tellX K C l S
  | .no => .no
def fTell (K : PySem.W.Frag) (l : List (Addr × D)) (k : D → So → Rs D) (fb : FE) : FE := fun en S => tellR K l k (fb en S)
/-- .. in the readings -/
def tellP (K : PySem.W.Frag) (cls : Value) : List (Addr × V) → VK → Hp → Prop
  | [], _, _ => False
  | (C1, r) :: l, Q, H => ∃ b, PySem.W.exmOne K cls (.ref C1) = some b ∧ (b = true → Q r H) ∧ (b = false → tellP K cls l Q H)
/-- clauses that give back a constant -/
inductive Cls (X : Cx) : List ExceptHandler → List (Addr × D) → List (Addr × V) → Prop
  | nil : Cls X [] [] []
  | str {x r : Str} {C : Addr} {j : Nat} {np p1 p2 p3 : Pos} {hds : List ExceptHandler} {l : List (Addr × D)} {lv : List (Addr × V)} (hc : Names X x (.ref C)) (t : Cls X hds l lv) :
      Cls X (.ExceptHandler (some (.Name x np)) none [.Return (some (.Constant (.str r) j p1)) p2] p3 :: hds) ((C, .str r) :: l) ((C, .str r) :: lv)
  | bl {x : Str} {r : Bool} {C : Addr} {j : Nat} {np p1 p2 p3 : Pos} {hds : List ExceptHandler} {l : List (Addr × D)} {lv : List (Addr × V)} (hc : Names X x (.ref C)) (t : Cls X hds l lv) :
      Cls X (.ExceptHandler (some (.Name x np)) none [.Return (some (.Constant (.bool r) j p1)) p2] p3 :: hds) ((C, .bl r) :: l) ((C, .bl r) :: lv)
theorem Cls.ok {X : Cx} {hds : List ExceptHandler} {l : List (Addr × D)} {lv : List (Addr × V)} (h : Cls X hds l lv) : HdsOk X hds (lv.map fun p => (Value.ref p.1, fun _ _ _ => tRet (tC p.2))) := by
  induction h with
  | nil => exact .nil
  | str hc t ih => exact .cons hc (fun a oe cls d pn _ _ => pss_one (ps_ret pe_str)) ih
  | bl hc t ih => exact .cons hc (fun a oe cls d pn _ _ => pss_one (ps_ret pe_bl)) ih
theorem Cls.post {X : Cx} {hds : List ExceptHandler} {l : List (Addr × D)} {lv : List (Addr × V)} (h : Cls X hds l lv) {K : PySem.W.Frag} {W : Wd} {H : Hp} {S : So} {C : Addr} {Q : VK} {E : XK} (s : SRel K W H S) (p : Post K DRel W H (tellX K C l S) Q E) : tellP K (.ref C) lv Q H := by
  induction h with
  | nil => exact p.elim
  | str hc t ih =>
    simp only [tellX] at p
    split at p
    · rename_i e
      exact ⟨true, e, fun _ => p.here s dstr, fun z => by cases z⟩
    · rename_i e
      exact ⟨false, e, fun z => (by cases z), fun _ => ih p⟩
    · exact p.elim
  | bl hc t ih =>
    simp only [tellX] at p
    split at p
    · rename_i e
      exact ⟨true, e, fun _ => p.here s dbl, fun z => by cases z⟩
    · rename_i e
      exact ⟨false, e, fun z => (by cases z), fun _ => ih p⟩
    · exact p.elim
theorem tell_many {K : PySem.W.Frag} {cls : Value} {d : Option Addr} {σ : St} {Q : VK} {D : Ends} (hD : D.rt = Q) : ∀ {lv : List (Addr × V)} {H : Hp}, tellP K cls lv Q H → wMany K (fun _ _ _ _ => False) D (lv.map fun p => (Value.ref p.1, fun _ _ _ => tRet (tC p.2))) cls d σ H
  | [], H, h => h
  | (C, v) :: lv, H, ⟨b, h1, h2, h3⟩ => ⟨b, h1, fun hb a _ => by show tC v σ H D.rt; rw [hD]; exact h2 hb, fun hb => tell_many hD (h3 hb)⟩
section told
variable {X : Cx} {Ng : List Str} {x a q : Str} {sg : Scope} {g : Addr} {cdg : Value} {p1 p2 p3 p4 p5 p8 : Pos} {h0 : ExceptHandler} {hds : List ExceptHandler} {l : List (Addr × D)} {lv : List (Addr × V)} {j : Nat}
open LamX in
/-- try: return a() / except ..: return .. -/
theorem told_gives (hcl : ∀ (s : Shared) (H : Hp), Cls (cxOf C8.CX0 X.prog X.w X.K X.mg X.base Ng x sg g cdg X.A X.stack s H C8.E0).nox (h0 :: hds) l lv) (hst : ∀ f : Addr, (L2.start Ng [V.ref f])[0]? = some (some (V.ref f))) :
    GivesTo X Ng x sg g cdg [.Try [.Return (some (.Call (.Name a p1) [] [] p2)) p3] (h0 :: hds) [] [] p8] a q (fun tl H Q => tl (fun cls _ H' => tellP X.K cls lv Q H') H Q) := by
  intro f c' s H Q tl act hc h
  refine ⟨_, pss_one (ps_try_many (X := (cxOf C8.CX0 X.prog X.w X.K X.mg X.base Ng x sg g cdg X.A X.stack s H C8.E0).nox) (Wout := fun _ _ _ _ => False)
      (tb := fun W D σ H => ∃ Ech : XK, (∀ cls d σ' H', Ech cls d H' → W cls d σ' H') ∧ σ[0]? = some (some (.ref f)) ∧ H c' = some (CodeO c' q) ∧ tl Ech H D.rt)
      rfl rfl LamX.takes0 (fun W pn xe tk _ => ?_) (hcl s H).ok), ?_⟩
  · refine ⟨fun pins s' σ H' D I h' => ?_⟩
    obtain ⟨Ech, hW, h1, h2, h3⟩ := h'
    have hp := act W pn xe Ech p1 p2 tk hW
    have hq := pss_one (ps_ret (pos := p3) hp)
    exact hq.run pins s' σ H' D I ⟨h1, h2, h3⟩
  · exact ⟨fun cls _ H' => tellP X.K cls lv Q H', fun cls d σ' H' z => tell_many rfl z, hst f, hc, h⟩
open LamX in
/-- try: a() / except ..: return .. / return .. -/
theorem refused_gives {r : Bool} (hcl : ∀ (s : Shared) (H : Hp), Cls (cxOf C8.CX0 X.prog X.w X.K X.mg X.base Ng x sg g cdg X.A X.stack s H C8.E0).nox (h0 :: hds) l lv) (hst : ∀ f : Addr, (L2.start Ng [V.ref f])[0]? = some (some (V.ref f))) :
    GivesTo X Ng x sg g cdg [.Try [.Expr (.Call (.Name a p1) [] [] p2) p3] (h0 :: hds) [] [] p8, .Return (some (.Constant (.bool r) j p4)) p5] a q (fun tl H Q => tl (fun cls _ H' => tellP X.K cls lv Q H') H fun _ H' => Q (.bl r) H') := by
  intro f c' s H Q tl act hc h
  refine ⟨_, pss_cons (ps_try_many (X := (cxOf C8.CX0 X.prog X.w X.K X.mg X.base Ng x sg g cdg X.A X.stack s H C8.E0).nox) (Wout := fun _ _ _ _ => False)
      (tb := fun W D σ H => ∃ Ech : XK, (∀ cls d σ' H', Ech cls d H' → W cls d σ' H') ∧ σ[0]? = some (some (.ref f)) ∧ H c' = some (CodeO c' q) ∧ tl Ech H fun _ H' => D.nx σ H')
      rfl rfl LamX.takes0 (fun W pn xe tk _ => ?_) (hcl s H).ok) (pss_one (ps_ret pe_bl)), ?_⟩
  · refine ⟨fun pins s' σ H' D I h' => ?_⟩
    obtain ⟨Ech, hW, h1, h2, h3⟩ := h'
    have hp := act W pn xe Ech p1 p2 tk hW
    have hq := pss_one (ps_expr (pos := p3) hp)
    exact hq.run pins s' σ H' D I ⟨h1, h2, h3⟩
  · exact ⟨fun cls _ H' => tellP X.K cls lv Q H', fun cls d σ' H' z => tell_many rfl z, hst f, hc, h⟩
end told
/-- the def that gets the lambda, as the top has written it -/
structure LamDef (K : PySem.W.Frag) (mg : Str → Option Value) (x a : Str) (st : Stmt) : Prop where
  ex : ∃ (g : Addr) (oc : Value) (od : Option Addr) (kV doc pm : Value) (an : Option Addr) (cdv ct : Value) (osl : Array (Option Value)), mg x = some (.ref g) ∧ PySem.W.keepIn K (.ref g) = true ∧
    K.lookup g = some ⟨oc, od, .func (PySem.W.fnOf x x (defArgs st) (defBody st) (defScope st) .none kV doc pm an cdv ct), osl⟩ ∧ PySem.W.codeIn K cdv x = true ∧ Binds K (PySem.W.fnOf x x (defArgs st) (defBody st) (defScope st) .none kV doc pm an cdv ct) [a] []
/-- the maker's code object and its table -/
structure Maker (base : Heap) (mg : Str → Option Value) (cd : Value) (q : Str) : Prop where
  ex : ∃ c P : Addr, cd = .ref c ∧ LamX.TabB base mg c P ∧ (P, q) ∈ Tab.T ∧ ∀ p ∈ Tab.T, p.1 = P → p.2 = q
section rule
variable {X : Cx} {Wx : WX} {x a : Str} {st : Stmt} {Ng : List Str} {l : List (Addr × D)} {lv : List (Addr × V)} {k : Nat} {params : Arguments} {body : Expr} {scope : Scope} {fb : FE} {p lpos pos : Pos} {p1 p2 p3 p4 p5 p8 : Pos} {h0 : ExceptHandler} {hds : List ExceptHandler} {j : Nat} {r : Bool}
open LamX in
theorem pf_told (Df : LamDef X.K X.mg x a st) (hst : defBody st = [.Try [.Return (some (.Call (.Name a p1) [] [] p2)) p3] (h0 :: hds) [] [] p8]) (Sg : FnScope Ng [a] (defScope st)) (hNg : Ng[0]? = some a) (hva : Vis (defScope st) a)
    (hcl : ∀ (g : Addr) (cdg : Value) (s : Shared) (H : Hp), Cls (cxOf C8.CX0 X.prog X.w X.K X.mg X.base Ng x (defScope st) g cdg X.A X.stack s H C8.E0).nox (h0 :: hds) l lv) (h9 : ∀ f : Addr, (L2.start Ng [V.ref f])[0]? = some (some (V.ref f)))
    (M : Maker X.base X.mg X.env.code (X.env.qual ++ "<lambda>")) (hg : Gl X x) (hr : Room (k + 2) X.A) (L : LamS X.env.scope scope) (hdef : defaultsOf params X.env = ([], []))
    (hbind : ∀ (q : Str) (cl : List (Str × Addr)) (pm cv ctv : Value), bindArgs (PySem.W.kla_fn "<lambda>" q params body scope cl pm cv ctv) ⟨[], []⟩ = pure [])
    (hbody : ∀ (A : Around) (outer : List Env) (s : Shared) (H : Hp) (E : XK) (f c' : Addr), Room k (A.deeper (lamEnv X scope s.heap.objs.size f c')) → PFE (lamCx X A outer s H E scope f c') (fun c d _ H => E c d H) body fb)
    (hdb : (x == ("__debug__" : Str)) = false := by decide) (hd : (a == ("__debug__" : Str)) = false := by decide) (hcd : (a == ("__classdict__" : Str)) = false := by decide) :
    PFE X Wx (.Call (.Name x p) [.Lambda params body scope lpos] [] pos) (fTell X.K l (fun d S => .ok d S) fb) := by
  obtain ⟨g, oc, od, kV, doc, pm, an, cdv, ct, osl, m1, m2, m3, m4, m5⟩ := Df.ex
  obtain ⟨c, P, n1, n2, n3, n4⟩ := M.ex
  rw [hst] at m3 m5
  refine ⟨fun W H σ en S Q he hs hp => PE_w (pe_lamcall (T := Tab.T) (t := fun E => tyX X.K fb E) hg m1 m2 m3 m4 m5 Sg hNg hva (told_gives (hcl g cdv) h9) n2 n1 n3 n4 hr L hdef hbind (fun A outer s H E f c' hr' => pe_tyX (hbody A outer s H E f c' hr')) hdb hd hcd) ⟨hs.tab, fun H1 eN T1 => ?_⟩⟩
  have x1 := ext_tab hs eN
  refine ⟨W, en, S, he.ext x1, srel_tab hs eN T1, ?_⟩
  have hp' := hp.later x1
  unfold fTell at hp'
  cases q : fb en S with
  | ok d S1 => rw [q] at hp'; exact hp'
  | ex C S1 =>
    rw [q] at hp'
    intro W2 H2 d x2 s2
    exact (hcl g cdv X.s_0 H).post s2 (hp'.later x2)
  | no => rw [q] at hp'; exact hp'
open LamX in
theorem pf_refused (Df : LamDef X.K X.mg x a st) (hst : defBody st = [.Try [.Expr (.Call (.Name a p1) [] [] p2) p3] (h0 :: hds) [] [] p8, .Return (some (.Constant (.bool r) j p4)) p5]) (Sg : FnScope Ng [a] (defScope st)) (hNg : Ng[0]? = some a) (hva : Vis (defScope st) a)
    (hcl : ∀ (g : Addr) (cdg : Value) (s : Shared) (H : Hp), Cls (cxOf C8.CX0 X.prog X.w X.K X.mg X.base Ng x (defScope st) g cdg X.A X.stack s H C8.E0).nox (h0 :: hds) l lv) (h9 : ∀ f : Addr, (L2.start Ng [V.ref f])[0]? = some (some (V.ref f)))
    (M : Maker X.base X.mg X.env.code (X.env.qual ++ "<lambda>")) (hg : Gl X x) (hr : Room (k + 2) X.A) (L : LamS X.env.scope scope) (hdef : defaultsOf params X.env = ([], []))
    (hbind : ∀ (q : Str) (cl : List (Str × Addr)) (pm cv ctv : Value), bindArgs (PySem.W.kla_fn "<lambda>" q params body scope cl pm cv ctv) ⟨[], []⟩ = pure [])
    (hbody : ∀ (A : Around) (outer : List Env) (s : Shared) (H : Hp) (E : XK) (f c' : Addr), Room k (A.deeper (lamEnv X scope s.heap.objs.size f c')) → PFE (lamCx X A outer s H E scope f c') (fun c d _ H => E c d H) body fb)
    (hdb : (x == ("__debug__" : Str)) = false := by decide) (hd : (a == ("__debug__" : Str)) = false := by decide) (hcd : (a == ("__classdict__" : Str)) = false := by decide) :
    PFE X Wx (.Call (.Name x p) [.Lambda params body scope lpos] [] pos) (fTell X.K l (fun _ S => .ok (.bl r) S) fb) := by
  obtain ⟨g, oc, od, kV, doc, pm, an, cdv, ct, osl, m1, m2, m3, m4, m5⟩ := Df.ex
  obtain ⟨c, P, n1, n2, n3, n4⟩ := M.ex
  rw [hst] at m3 m5
  refine ⟨fun W H σ en S Q he hs hp => PE_w (pe_lamcall (T := Tab.T) (t := fun E => tyX X.K fb E) hg m1 m2 m3 m4 m5 Sg hNg hva (refused_gives (hcl g cdv) h9) n2 n1 n3 n4 hr L hdef hbind (fun A outer s H E f c' hr' => pe_tyX (hbody A outer s H E f c' hr')) hdb hd hcd) ⟨hs.tab, fun H1 eN T1 => ?_⟩⟩
  have x1 := ext_tab hs eN
  refine ⟨W, en, S, he.ext x1, srel_tab hs eN T1, ?_⟩
  have hp' := hp.later x1
  unfold fTell at hp'
  cases q : fb en S with
  | ok d S1 =>
    rw [q] at hp'
    intro W2 H2 v x2 s2 _
    exact hp' W2 H2 (.bl r) x2 s2 dbl
  | ex C S1 =>
    rw [q] at hp'
    intro W2 H2 d x2 s2
    exact (hcl g cdv X.s_0 H).post s2 (hp'.later x2)
  | no => rw [q] at hp'; exact hp'
end rule
section fnc
variable {P : Program} {w : World} {K : PySem.W.Frag} {mg : Str → Option Value} {base : Heap}
/-- as fn_ok, the def's own code object told -/
theorem fn_okC {x qual : Str} {st : Stmt} {f : Addr} {fd : FuncData} {N ps : List Str} {k : Nat} {fb : FS} {F : FN} (F0 : Fun K x qual st f fd) (sc : FnScope N ps (defScope st))
    (hb : ∀ (A : Around) (outer : List Env) (s : Shared) (H : Hp) (E : XK), Room k (A.deeper (PyProof.Rows.envOfC qual (defScope st) s.heap.objs.size f fd.code)) → PFB (cxOf (L2.CX P w) P w K mg base N qual (defScope st) f fd.code A outer s H E) (fun c d _ H => E c d H) (defBody st) fb)
    (hF : ∀ ds S, ds.length = ps.length → clS S → clDs S.length ds → RetOk S (fb (startD N ds) S) (F ds S)) : FnOk P w K mg base (L2.CX P w) (k + 1) f fd ps (spD K F ps.length) := by
  obtain ⟨oc, od, kV, doc, pm, an, cdv, ct, osl, rfl, lk, hcd⟩ := F0.ex
  refine fn_of lk hcd sc (fun vs H Q E h => h.1) fun A outer s H vs Q E hr h => ?_
  obtain ⟨hl, W, S, ds, hs, rd, hp⟩ := h
  refine ⟨wSs _ (defBody st), pss_w, ?_⟩
  refine (hb A outer s H E hr).run W H (L2.start N vs) (startD N ds) S _ (start_rel rd) hs ?_
  exact ret_post hs (hF ds S (by rw [rd.length]; exact hl) hs.clo (by have := rd.clo; rw [hs.len] at this; exact this)) hp
end fnc
/-- the law's own table of code objects, found by the law's name -/
def tabOf (K : PySem.W.Frag) (cd : Value) : Addr := match cd with
  | .ref c => match K.lookup c with
    | some ⟨_, _, .fields vs, _⟩ => match (vs[11]? : Option Value) with
      | some (.ref P) => P
      | _ => 0
    | _ => 0
  | _ => 0
end PF

namespace PF
open PySem L2
variable [Tab]
/-! ### a op1 b op2 c op3 d -/
section chain3
variable {X : Cx} {Wx : WX} {a b c d : Expr} {fa fb fc fd : FE} {pos : Pos} {op op' op'' : CmpOp} {r r' r'' : R2} {g g' g'' : G2} {ta tb tc td : TE}
def tChain3 (r r' r'' : R2) (ta tb tc td : TE) : TE := fun σ H Q => ta σ H fun x H1 => tb σ H1 fun y H2 => r x y H2 fun z H3 => ∃ k, z = .bl k ∧
  (if k = true then tc σ H3 fun w H4 => r' y w H4 fun z' H5 => ∃ k', z' = .bl k' ∧ (if k' = true then td σ H5 fun u H6 => r'' w u H6 Q else Q (.bl false) H5) else Q (.bl false) H3)
theorem pe_chain3 (ho : OpR X (compareOp op) r) (ho' : OpR X (compareOp op') r') (ho'' : OpR X (compareOp op'') r'') (ha : PE X a ta) (hb : PE X b tb) (hc : PE X c tc) (hd : PE X d td)
    (hm : lastMarks [op, op', op''] [b, c, d] = false := by with_unfolding_all rfl) : PE X (.Compare a [op, op', op''] [b, c, d] pos) (tChain3 r r' r'' ta tb tc td) := by
  refine ⟨fun pins s σ H Q I h => ?_⟩
  refine PyProof.Rows.Compare_chain (thn (ha.run pins s σ H _ I h) fun v s1 ⟨x, H1, I1, r1, q1⟩ => PyProof.Rows.chain_link (thn (hb.run pins s1 σ H1 _ I1 q1) fun u s2 ⟨y, H2, I2, r2, q2⟩ =>
    thn (ho pins s2 σ H2 x y v u _ I2 r1 r2 q2) fun d s3 ⟨z, H3, I3, r3, k, e, q3⟩ => ?_)) hm
  subst e
  cases r3
  refine wpAny_truthy_bool ?_
  cases k with
  | false => exact PyProof.Rows.ite_ff ⟨.bl false, H3, I3, rfl, q3⟩
  | true =>
    refine PyProof.Rows.ite_tt (PyProof.Rows.chain_link (thn (hc.run pins s3 σ H3 _ I3 q3) fun w' s4 ⟨z', H4, I4, r4, q4⟩ => thn (ho' pins s4 σ H4 y z' u w' _ I4 r2 r4 q4) fun d s5 ⟨z, H5, I5, r5, k, e, q5⟩ => ?_))
    subst e
    cases r5
    refine wpAny_truthy_bool ?_
    cases k with
    | false => exact PyProof.Rows.ite_ff ⟨.bl false, H5, I5, rfl, q5⟩
    | true => exact PyProof.Rows.ite_tt (PyProof.Rows.chain_last (thn (hd.run pins s5 σ H5 _ I5 q5) fun w2 s6 ⟨z2, H6, I6, r6, q6⟩ => ho'' pins s6 σ H6 z' z2 w' w2 Q I6 r4 r6 q6))
theorem pt_chain3 (ho : OpR X (compareOp op) r) (ho' : OpR X (compareOp op') r') (ho'' : OpR X (compareOp op'') r'') (ha : PE X a ta) (hb : PE X b tb) (hc : PE X c tc) (hd : PE X d td)
    (hm : lastMarks [op, op', op''] [b, c, d] = false := by with_unfolding_all rfl) : PT X (.Compare a [op, op', op''] [b, c, d] pos) (tTest (tChain3 r r' r'' ta tb tc td)) := by
  refine ⟨fun pins s σ H Q I h => ?_⟩
  refine PyProof.Rows.isTrue_chain (thn (ha.run pins s σ H _ I h) fun v s1 ⟨x, H1, I1, r1, q1⟩ => PyProof.Rows.test_link (thn (hb.run pins s1 σ H1 _ I1 q1) fun u s2 ⟨y, H2, I2, r2, q2⟩ =>
    thn (ho pins s2 σ H2 x y v u _ I2 r1 r2 q2) fun d s3 ⟨z, H3, I3, r3, k, e, q3⟩ => ?_)) hm
  subst e
  cases r3
  refine wpAny_truthy_bool ?_
  cases k with
  | false =>
    obtain ⟨k', e', q'⟩ := q3
    cases e'
    exact PyProof.Rows.ite_ff ⟨H3, I3, q'⟩
  | true =>
    refine PyProof.Rows.ite_tt (PyProof.Rows.test_link (thn (hc.run pins s3 σ H3 _ I3 q3) fun w' s4 ⟨z', H4, I4, r4, q4⟩ => thn (ho' pins s4 σ H4 y z' u w' _ I4 r2 r4 q4) fun d s5 ⟨z, H5, I5, r5, k, e, q5⟩ => ?_))
    subst e
    cases r5
    refine wpAny_truthy_bool ?_
    cases k with
    | false =>
      obtain ⟨k', e', q'⟩ := q5
      cases e'
      exact PyProof.Rows.ite_ff ⟨H5, I5, q'⟩
    | true =>
      refine PyProof.Rows.ite_tt (PyProof.Rows.test_last (thn (hd.run pins s5 σ H5 _ I5 q5) fun w2 s6 ⟨z2, H6, I6, r6, q6⟩ => thn (ho'' pins s6 σ H6 z' z2 w' w2 _ I6 r4 r6 q6) fun d' s7 ⟨z3, H7, I7, r7, k2, e2, q7⟩ => ?_))
      subst e2
      cases r7
      exact wpAny_truthy_bool ⟨H7, I7, q7⟩
def fChain3 (g g' g'' : G2) (fa fb fc fd : FE) : FE := fun en S => (fa en S).bind fun x S1 => (fb en S1).bind fun y S2 => (ofO (g x y S2)).bind fun z S3 => match z with
  | .bl k => if k = true then (fc en S3).bind fun w S4 => (ofO (g' y w S4)).bind fun z' S5 => match z' with
    | .bl k' => if k' = true then (fd en S5).bind fun u S6 => ofO (g'' w u S6) else .ok (.bl false) S5
    | _ => .no
    else .ok (.bl false) S3
  | _ => .no
theorem chain3_run (hg : OpD X.K r g) (hg' : OpD X.K r' g') (hg'' : OpD X.K r'' g'') (ha : PFE X Wx a fa) (hb : PFE X Wx b fb) (hc : PFE X Wx c fc) (hd : PFE X Wx d fd) {W : Wd} {H : Hp} {σ : St} {en : En} {S : So} {Q : VK} (he : ERel X.K W H en σ) (hs : SRel X.K W H S)
    (hp : Post X.K DRel W H (fChain3 g g' g'' fa fb fc fd en S) Q (Wish Wx σ)) : tChain3 r r' r'' (wE X a) (wE X b) (wE X c) (wE X d) σ H Q := by
  refine ha.run W H σ en S _ he hs (Post.bind hp fun d1 S1 W1 H1 x e1 s1 r1 p1 => ?_)
  refine hb.run W1 H1 σ en S1 _ (he.ext e1) s1 (Post.bind p1 fun d2 S2 W2 H2 y e2 s2 r2 p2 => ?_)
  refine hg W2 H2 S2 x y d1 d2 _ s2 (r1.ext e2) r2 (postO (Post.bind p2 fun d3 S3 W3 H3 z e3 s3 r3 p3 => ?_))
  cases d3 with
  | bl k =>
    unfold DRel at r3; subst r3
    refine ⟨k, rfl, ?_⟩
    cases k with
    | true =>
      refine iteT (hc.run W3 H3 σ en S3 _ (he.ext ((e1.trans e2).trans e3)) s3 (Post.bind p3 fun d4 S4 W4 H4 w e4 s4 r4 p4 => ?_))
      refine hg' W4 H4 S4 y w d2 d4 _ s4 (r2.ext (e3.trans e4)) r4 (postO (Post.bind p4 fun d5 S5 W5 H5 z' e5 s5 r5 p5 => ?_))
      cases d5 with
      | bl k' =>
        unfold DRel at r5; subst r5
        refine ⟨k', rfl, ?_⟩
        cases k' with
        | true =>
          refine iteT (hd.run W5 H5 σ en S5 _ (he.ext ((((e1.trans e2).trans e3).trans e4).trans e5)) s5 (Post.bind p5 fun d6 S6 W6 H6 u e6 s6 r6 p6 => ?_))
          exact hg'' W6 H6 S6 w u d4 d6 Q s6 (r4.ext (e5.trans e6)) r6 (postO p6)
        | false => exact iteF (p5.here s5 (by unfold DRel; rfl))
      | _ => exact p5.elim
    | false => exact iteF (p3.here s3 (by unfold DRel; rfl))
  | _ => exact p3.elim
theorem pf_chain3 (ho : OpR X (compareOp op) r) (hg : OpD X.K r g) (ho' : OpR X (compareOp op') r') (hg' : OpD X.K r' g') (ho'' : OpR X (compareOp op'') r'') (hg'' : OpD X.K r'' g'') (ha : PFE X Wx a fa) (hb : PFE X Wx b fb) (hc : PFE X Wx c fc) (hd : PFE X Wx d fd)
    (hm : lastMarks [op, op', op''] [b, c, d] = false := by with_unfolding_all rfl) : PFE X Wx (.Compare a [op, op', op''] [b, c, d] pos) (fChain3 g g' g'' fa fb fc fd) :=
  ⟨fun W H σ en S Q he hs hp => PE_w (pe_chain3 ho ho' ho'' pe_w pe_w pe_w pe_w hm) (chain3_run hg hg' hg'' ha hb hc hd he hs hp)⟩
theorem pft_chain3 (ho : OpR X (compareOp op) r) (hg : OpD X.K r g) (ho' : OpR X (compareOp op') r') (hg' : OpD X.K r' g') (ho'' : OpR X (compareOp op'') r'') (hg'' : OpD X.K r'' g'') (ha : PFE X Wx a fa) (hb : PFE X Wx b fb) (hc : PFE X Wx c fc) (hd : PFE X Wx d fd)
    (hm : lastMarks [op, op', op''] [b, c, d] = false := by with_unfolding_all rfl) : PFT X Wx (.Compare a [op, op', op''] [b, c, d] pos) (fTst (fChain3 g g' g'' fa fb fc fd)) := by
  refine ⟨fun W H σ en S Q he hs hp => PT_w (pt_chain3 ho ho' ho'' pe_w pe_w pe_w pe_w hm) ?_⟩
  have hp' := Post.bind (R := DRel) (Q1 := fun x H' => ∃ k, x = .bl k ∧ Q k H') hp fun d S1 W1 H1 x e1 s1 r1 p1 => by
    cases d with
    | bl b => unfold DRel at r1; exact ⟨b, r1, p1.here s1 rfl⟩
    | _ => exact p1.elim
  exact chain3_run hg hg' hg'' ha hb hc hd he hs hp'
@[simp] theorem fChain3_eq {en : En} {S : So} (g g' g'' : G2) (fa fb fc fd : FE) : fChain3 g g' g'' fa fb fc fd en S = (fa en S).bind fun x S1 => (fb en S1).bind fun y S2 => (ofO (g x y S2)).bind fun z S3 => asB z fun k => if k = true then (fc en S3).bind fun w S4 => (ofO (g' y w S4)).bind fun z' S5 => asB z' fun k' => if k' = true then (fd en S5).bind fun u S6 => ofO (g'' w u S6) else .ok (.bl false) S5 else .ok (.bl false) S3 := by
  rfl
/-! told -/
@[simp] theorem fTell_eq {en : En} {S : So} (K : PySem.W.Frag) (l : List (Addr × D)) (k : D → So → Rs D) (fb : FE) : fTell K l k fb en S = tellR K l k (fb en S) := rfl
@[simp] theorem tellR_ok {S : So} (K : PySem.W.Frag) (l : List (Addr × D)) (k : D → So → Rs D) (d : D) : tellR K l k (.ok d S) = k d S := rfl
@[simp] theorem tellR_ex {S : So} (K : PySem.W.Frag) (l : List (Addr × D)) (k : D → So → Rs D) (C : Addr) : tellR K l k (.ex C S) = tellX K C l S := rfl
theorem tellX_hit {K : PySem.W.Frag} {C C1 : Addr} {r : D} {l : List (Addr × D)} {S : So} (h : PySem.W.exmOne K (.ref C) (.ref C1) = some true) : tellX K C ((C1, r) :: l) S = .ok r S := by
  simp only [tellX, h]
theorem tellX_miss {K : PySem.W.Frag} {C C1 : Addr} {r : D} {l : List (Addr × D)} {S : So} (h : PySem.W.exmOne K (.ref C) (.ref C1) = some false) : tellX K C ((C1, r) :: l) S = tellX K C l S := by
  simp only [tellX, h]
end chain3
theorem aug_mul {en : En} {S S1 : So} {i : Nat} {f : FE} {a b : Int} (h : en[i]? = some (some (.int a))) (hf : f en S = .ok (.int b) S1) (hc : cMul a b = true) : fAug i f (gIc cMul fun i j => i * j) en S = .nx (en.set i (some (.int (a * b)))) S1 := by
  rw [fAug_eq, h, augO_some, hf, then_ok, gIc_int, if_pos hc, nxO_some]
theorem gMul_at {a b : Int} {S : So} (mu : Bool) (h : cMul a b = true) : gMul mu (.int a) (.int b) S = some (.int (a * b), S) := by
  rw [gMul_int, if_pos h]
theorem mul_at {en : En} {S S1 S2 : So} {fa fb : FE} {a b : Int} (mu : Bool) (ha : fa en S = .ok (.int a) S1) (hb : fb en S1 = .ok (.int b) S2) (h : cMul a b = true) : fOp (gMul mu) fa fb en S = .ok (.int (a * b)) S2 := by
  rw [fOp_eq, ha, bind_ok, hb, bind_ok, gMul_at mu h, ofO_some]
/-- a comprehension over fixed items -/
theorem lc_at {m : Nat} {mu : Bool} {vs : List Nat} {fi : FI} {g : FG} {c : FT} {f : FE} {en : En} {S S1 S2 : So} {ds out : List D} (hi : fi en S = .ok (.items ds) S1) (hl : lcL g c f (wipeD en vs) ds [] S1 = .ok out S2) :
    fLc m mu vs fi g c f en S = .ok (newL mu out S2).1 (newL mu out S2).2 := by
  rw [fLc_eq, hi, bind_ok, lcT_items, hl, noX_ok, bind_ok]
  rfl
end PF

namespace PF
open PySem L2
variable [Tab]
/-! comprehensions whose pieces leave the store alone -/
theorem lcL_pure {i : Nat} {f : FE} {en : En} {S : So} (v : D → D) : ∀ (ds acc : List D), (∀ d ∈ ds, f (en.set i (some d)) S = .ok (v d) S) → acc.length + ds.length < 16777216 → lcL (gtName i) fYes f en ds acc S = .ok (acc ++ ds.map v) S
  | [], acc, _, _ => by simp [lcL]
  | d :: ds, acc, h, hl => by
    simp only [List.length_cons] at hl
    have ha : acc.length < sizeLine := small_lt (by omega)
    have ih := lcL_pure v ds (acc ++ [v d]) (fun x hx => h x (by simp [hx])) (by simp; omega)
    have h1 := h d (by simp)
    simp only [lcL, gtName_eq, fYes_eq, bind_ok, if_true, h1, ha, ih]
    simp
theorem lcL_filt {i : Nat} {f : FE} {c : FT} {en : En} {S : So} (p : D → Bool) (v : D → D) : ∀ (ds acc : List D), (∀ d ∈ ds, c (en.set i (some d)) S = .ok (p d) S) → (∀ d ∈ ds, p d = true → f (en.set i (some d)) S = .ok (v d) S) → acc.length + ds.length < 16777216 → lcL (gtName i) c f en ds acc S = .ok (acc ++ (ds.filter p).map v) S
  | [], acc, _, _, _ => by simp [lcL]
  | d :: ds, acc, hc, h, hl => by
    simp only [List.length_cons] at hl
    have ha : acc.length < sizeLine := small_lt (by omega)
    have h0 := hc d (by simp)
    cases hp : p d with
    | true =>
      have ih := lcL_filt p v ds (acc ++ [v d]) (fun x hx => hc x (by simp [hx])) (fun x hx => h x (by simp [hx])) (by simp; omega)
      have h1 := h d (by simp) hp
      rw [hp] at h0
      simp only [lcL, gtName_eq, bind_ok, if_true, h0, h1, ha, ih]
      simp [hp]
    | false =>
      have ih := lcL_filt p v ds acc (fun x hx => hc x (by simp [hx])) (fun x hx => h x (by simp [hx])) (by omega)
      rw [hp] at h0
      simp only [lcL, gtName_eq, bind_ok, h0, Bool.false_eq_true, if_false, ih]
      simp [hp]
theorem lcR_pure {i n : Nat} {f : FE} {en : En} {S : So} {ds : List D} (v : D → D) (hS : S[n]? = some (.lst ds)) (h : ∀ d ∈ ds, f (en.set i (some d)) S = .ok (v d) S) : ∀ (m k j : Nat) (acc : List D), k + j = ds.length → j < m → acc.length + j < 16777216 →
    lcR (gtName i) fYes f en n m k acc S = .ok (acc ++ (ds.drop k).map v) S
  | 0, k, j, acc, _, h2, _ => by omega
  | m + 1, k, 0, acc, h1, h2, h3 => by
    have e : ds[k]? = none := List.getElem?_eq_none (by omega)
    simp only [lcR, hS, e]
    rw [List.drop_of_length_le (by omega)]
    simp
  | m + 1, k, j + 1, acc, h1, h2, h3 => by
    have hk : k < ds.length := by omega
    have e : ds[k]? = some ds[k] := List.getElem?_eq_getElem hk
    have ha : acc.length < sizeLine := small_lt (by omega)
    have hd := h ds[k] (List.getElem_mem hk)
    have ih := lcR_pure v hS h m (k + 1) j (acc ++ [v ds[k]]) (by omega) (by omega) (by simp; omega)
    simp only [lcR, hS, e, gtName_eq, fYes_eq, bind_ok, if_true, hd, ha, ih]
    rw [List.drop_eq_getElem_cons hk, List.map_cons, List.append_assoc]
    rfl
/-- a comprehension over a list of the store -/
theorem lc_live {m : Nat} {mu : Bool} {vs : List Nat} {fi : FI} {g : FG} {c : FT} {f : FE} {en : En} {S S1 S2 : So} {n : Nat} {out : List D} (hi : fi en S = .ok (.live n) S1) (hl : lcR g c f (wipeD en vs) n m 0 [] S1 = .ok out S2) :
    fLc m mu vs fi g c f en S = .ok (newL mu out S2).1 (newL mu out S2).2 := by
  rw [fLc_eq, hi, bind_ok]
  show (noX (lcR g c f (wipeD en vs) n m 0 [] S1)).bind _ = _
  rw [hl, noX_ok, bind_ok]
  rfl
theorem mul_rep (mu : Bool) (xs : List D) (n : Nat) (S : So) (h : xs.length * n ≤ 16777216) : gMul mu (.lst xs) (.int (n : Int)) S = if (n : Int) < 9223372036854775808 then some (newL mu (List.replicate n xs).flatten S) else none := by
  unfold gMul
  simp only [lsOf_lst]
  rw [sizeLine_val]
  have h1 : ((2 : Int) ^ 63) = 9223372036854775808 := by decide
  rw [h1]
  have h0 : (-9223372036854775808 : Int) ≤ (n : Int) := by omega
  simp only [Int.toNat_natCast, h, h0, true_and, and_true]
end PF

namespace PF
open PySem L2
variable [Tab]
/-! ### a def by its own body -/
def runF (N : List Str) (f : FS) : FN := fun ds S => match f (startD N ds) S with
  | .rt d S' => .ok d S'
  | .nx _ S' => .ok .non S'
  | .ex C _ S' => .ex C S'
  | _ => .no
theorem run_post {K : PySem.W.Frag} {W : Wd} {H : Hp} {S : So} {N : List Str} {f : FS} {ds : List D} {Q : VK} {E : XK} (p : Post K DRel W H (runF N f ds S) Q E) :
    PostS K W H (f (startD N ds) S) { nx := fun _ H' => Q .non H', rt := Q } (fun c d _ H => E c d H) := by
  unfold runF at p
  cases e : f (startD N ds) S with
  | rt d S' => rw [e] at p; exact p
  | nx e' S' => rw [e] at p; exact fun W' H' σ x s _ => p W' H' .non x s dnon
  | ex C e' S' => rw [e] at p; exact fun W' H' σ d x s _ => p W' H' d x s
  | bk _ _ => rw [e] at p; exact p.elim
  | ct _ _ => rw [e] at p; exact p.elim
  | no => rw [e] at p; exact p.elim
section fns
variable {P : Program} {w : World} {K : PySem.W.Frag} {mg : Str → Option Value} {base : Heap}
theorem fn_run {x qual : Str} {st : Stmt} {f : Addr} {fd : FuncData} {N ps : List Str} {k : Nat} {fb : FS} (F0 : Fun K x qual st f fd) (sc : FnScope N ps (defScope st))
    (hb : ∀ (cdv : Value) (A : Around) (outer : List Env) (s : Shared) (H : Hp) (E : XK), Room k (A.deeper (PyProof.Rows.envOfC qual (defScope st) s.heap.objs.size f cdv)) → PFB (cxOf (L2.CX P w) P w K mg base N qual (defScope st) f cdv A outer s H E) (fun c d _ H => E c d H) (defBody st) fb) : FnOk P w K mg base (L2.CX P w) (k + 1) f fd ps (spD K (runF N fb) ps.length) := by
  refine F0.okX sc (fun vs H Q E h => h.1) (fun cdv A outer s H vs Q E hr h => ?_)
  obtain ⟨hl, W, S, ds, hs, rd, hp⟩ := h
  refine ⟨wSs _ (defBody st), pss_w, ?_⟩
  exact (hb cdv A outer s H E hr).run W H (L2.start N vs) (startD N ds) S _ (start_rel rd) hs (run_post hp)
theorem fn_runC {x qual : Str} {st : Stmt} {f : Addr} {fd : FuncData} {N ps : List Str} {k : Nat} {fb : FS} (F0 : Fun K x qual st f fd) (sc : FnScope N ps (defScope st))
    (hb : ∀ (A : Around) (outer : List Env) (s : Shared) (H : Hp) (E : XK), Room k (A.deeper (PyProof.Rows.envOfC qual (defScope st) s.heap.objs.size f fd.code)) → PFB (cxOf (L2.CX P w) P w K mg base N qual (defScope st) f fd.code A outer s H E) (fun c d _ H => E c d H) (defBody st) fb) : FnOk P w K mg base (L2.CX P w) (k + 1) f fd ps (spD K (runF N fb) ps.length) := by
  obtain ⟨oc, od, kV, doc, pm, an, cdv, ct, osl, rfl, lk, hcd⟩ := F0.ex
  refine fn_of lk hcd sc (fun vs H Q E h => h.1) fun A outer s H vs Q E hr h => ?_
  obtain ⟨hl, W, S, ds, hs, rd, hp⟩ := h
  refine ⟨wSs _ (defBody st), pss_w, ?_⟩
  exact (hb A outer s H E hr).run W H (L2.start N vs) (startD N ds) S _ (start_rel rd) hs (run_post hp)
end fns
end PF

namespace PF
open PySem L2
variable [Tab]
/-! ### instances -/
section flds
variable {K : PySem.W.Frag} {W W' : Wd} {H H' : Hp}
def putD (f : Str) (v : D) : List (Str × D) → List (Str × D)
  | [] => [(f, v)]
  | (g, x) :: r => if g = f then (g, v) :: r else (g, x) :: putD f v r
theorem FRel.look {f : Str} {d : D} : ∀ {fs : List (Str × D)} {vs : List (Str × V)}, FRel K W H fs vs → fs.lookup f = some d → ∃ v, vs.lookup f = some v ∧ DRel K W H d v
  | [], vs, h, q => by cases q
  | (k, x) :: fs, vs, h, q => by
    obtain ⟨v, r, rfl, h1, h2⟩ := h
    simp only [List.lookup] at q ⊢
    cases e : f == k with
    | true => rw [e] at q; cases q; exact ⟨v, rfl, h1⟩
    | false => rw [e] at q; exact FRel.look h2 q
theorem FRel.miss {f : Str} : ∀ {fs : List (Str × D)} {vs : List (Str × V)}, FRel K W H fs vs → fs.lookup f = none → vs.lookup f = none
  | [], vs, h, q => by cases h; rfl
  | (k, x) :: fs, vs, h, q => by
    obtain ⟨v, r, rfl, h1, h2⟩ := h
    simp only [List.lookup] at q ⊢
    cases e : f == k with
    | true => rw [e] at q; cases q
    | false => rw [e] at q; exact FRel.miss h2 q
theorem FRel.length : ∀ {fs : List (Str × D)} {vs : List (Str × V)}, FRel K W H fs vs → vs.length = fs.length
  | [], vs, h => by cases h; rfl
  | (k, x) :: fs, vs, h => by
    obtain ⟨v, r, rfl, h1, h2⟩ := h
    simp [FRel.length h2]
theorem FRel.put {f : Str} {d : D} {v : V} (hd : DRel K W H d v) : ∀ {fs : List (Str × D)} {vs : List (Str × V)}, FRel K W H fs vs → FRel K W H (putD f d fs) (putF f v vs)
  | [], vs, h => by cases h; exact ⟨v, [], rfl, hd, rfl⟩
  | (k, x) :: fs, vs, h => by
    obtain ⟨y, r, rfl, h1, h2⟩ := h
    by_cases q : k = f
    · simp only [putD, putF, if_pos q]; exact ⟨v, r, rfl, hd, h2⟩
    · simp only [putD, putF, if_neg q]; exact ⟨y, _, rfl, h1, FRel.put hd h2⟩
end flds
/-- the instance at a reference -/
def insAt (S : So) (C : Addr) (d : D) : Option (Nat × List (Str × D)) := match d with
  | .ref n => match S[n]? with
    | some (.ins C' fs) => if C' = C then some (n, fs) else none
    | _ => none
  | _ => none
theorem ins_at {K : PySem.W.Frag} {W : Wd} {H : Hp} {S : So} {C : Addr} {d : D} {v : V} {n : Nat} {fs : List (Str × D)} (s : SRel K W H S) (r : DRel K W H d v) (h : insAt S C d = some (n, fs)) :
    d = .ref n ∧ S[n]? = some (.ins C fs) ∧ ∃ a dx vs, v = .ref a ∧ W.m[n]? = some a ∧ H a = some (.ins C dx vs) ∧ FRel K W H fs vs := by
  unfold insAt at h
  split at h
  · rename_i m
    split at h
    · rename_i C' fs' hm
      split at h
      · rename_i hc
        cases h
        subst hc
        unfold DRel at r
        obtain ⟨a, rfl, ha⟩ := r
        obtain ⟨dx, vs, h1, h2⟩ := s.obj n a _ ha hm
        exact ⟨rfl, hm, a, dx, vs, rfl, ha, h1, h2⟩
      · cases h
    · cases h
  · cases h
section rules
variable {X : Cx} {Wx : WX} {C : Addr} {f : Str} {o e value : Expr} {fo fv fe : FE} {pos pos' tpos : Pos}
def fFld (C : Addr) (f : Str) (fo : FE) : FE := fun en S => (fo en S).bind fun d S1 => match insAt S1 C d with
  | some (_, fs) => match fs.lookup f with
    | some v => .ok v S1
    | none => .no
  | none => .no
theorem pf_fld (c : L2.Cls X.K C) (na : NoAttr X.K C f) (ho : PFE X Wx o fo) (hb : attributeBase o f X.env (eval o X.env) = eval o X.env := by rfl) : PFE X Wx (.Attribute o f pos) (fFld C f fo) := by
  refine ⟨fun W H σ en S Q he hs hp => PE_w (pe_fld pe_w hb) (ho.run W H σ en S _ he hs (Post.bind hp fun d S1 W1 H1 x e1 s1 r1 p1 => ?_))⟩
  split at p1
  · rename_i n fs hi
    obtain ⟨rfl, hn, a, dx, vs, rfl, ha, h1, h2⟩ := ins_at s1 r1 hi
    split at p1
    · rename_i v hv
      obtain ⟨u, hu, ru⟩ := h2.look hv
      exact ⟨a, C, dx, vs, u, rfl, h1, c, na, hu, Post.here p1 s1 ru⟩
    · exact p1.elim
  · exact p1.elim
def fSetF (C : Addr) (f : Str) (fo fv : FE) : FS := fun en S => fthen en (fv en S) fun y S1 => fthen en (fo en S1) fun d S2 => match insAt S2 C d with
  | some (n, fs) => if fs.length < 1000 then .nx en (S2.set n (.ins C (putD f y fs))) else .no
  | none => .no
theorem set_ins {K : PySem.W.Frag} {W : Wd} {H : Hp} {S : So} {n : Nat} {a dx : Addr} {fs : List (Str × D)} {vs : List (Str × V)} {y : D} {u : V} (s : SRel K W H S) (ha : W.m[n]? = some a) (h2 : FRel K W H fs vs) (ry : DRel K W H y u) :
    SRel K W (L2.upd H a (.ins C dx (putF f u vs))) (S.set n (.ins C (putD f y fs))) :=
  s.upd ha trivial ⟨dx, _, upd_same, (h2.ext0 (ext_upd0 s ha)).put (ry.ext0 (ext_upd0 s ha))⟩
theorem pfs_fld (c : L2.Cls X.K C) (na : NoAttr X.K C f) (ho : PFE X Wx o fo) (hv : PFE X Wx value fv) (hsw : swapsWith value (some (.Attribute o f pos')) pos.line X.env = pure false := by rfl) : PFS X Wx (.Assign [.Attribute o f pos'] value pos) (fSetF C f fo fv) := by
  refine ⟨fun W H σ en S Z he hs hp => PS_w (ps_fld pe_w pe_w hsw) (hv.run W H σ en S _ he hs (post_then he hp fun y S1 W1 H1 u e1 s1 r1 p1 => ?_))⟩
  refine ho.run W1 H1 σ en S1 _ (he.ext e1) s1 (post_then (he.ext e1) p1 fun d S2 W2 H2 x e2 s2 r2 p2 => ?_)
  split at p2
  · rename_i n fs hi
    obtain ⟨rfl, hn, a, dx, vs, rfl, ha, h1, h2⟩ := ins_at s2 r2 hi
    split at p2
    · rename_i hl
      exact ⟨a, C, dx, vs, rfl, h1, c, na, by rw [h2.length]; exact hl, p2 W2 _ σ (ext_upd s2 ha) (set_ins s2 ha h2 (r1.ext e2)) (((he.ext e1).ext e2).ext (ext_upd s2 ha))⟩
    · exact p2.elim
  · exact p2.elim
def fAugF (C : Addr) (f : Str) (fo fv : FE) (g : G2) : FS := fun en S => fthen en (fo en S) fun d S1 => match insAt S1 C d with
  | some (_, fs) => match fs.lookup f with
    | some v => fthen en (fv en S1) fun y S2 => match g v y S2 with
      | some (z, S3) => match insAt S3 C d with
        | some (n, fs') => if fs'.length < 1000 then .nx en (S3.set n (.ins C (putD f z fs'))) else .no
        | none => .no
      | none => .no
    | none => .no
  | none => .no
theorem pfs_fldaug {op : Operator} {r : R2} {g : G2} (c : L2.Cls X.K C) (na : NoAttr X.K C f) (hop : OpR X (inplaceOp op) r) (hg : OpD X.K r g) (ho : PFE X Wx o fo) (hv : PFE X Wx value fv) : PFS X Wx (.AugAssign (.Attribute o f tpos) op value pos) (fAugF C f fo fv g) := by
  refine ⟨fun W H σ en S Z he hs hp => PS_w (ps_fldaug (rd := r) pe_w pe_w hop) (ho.run W H σ en S _ he hs (post_then he hp fun d S1 W1 H1 x e1 s1 r1 p1 => ?_))⟩
  split at p1
  · rename_i n fs hi
    obtain ⟨rfl, hn, a, dx, vs, rfl, ha, h1, h2⟩ := ins_at s1 r1 hi
    split at p1
    · rename_i v hlv
      obtain ⟨u, hu, ru⟩ := h2.look hlv
      refine ⟨a, C, dx, vs, u, rfl, h1, c, na, hu, hv.run W1 H1 σ en S1 _ (he.ext e1) s1 (post_then (he.ext e1) p1 fun y S2 W2 H2 w e2 s2 r2 p2 => ?_)⟩
      refine hg W2 H2 S2 u w v y _ s2 (ru.ext e2) r2 ?_
      cases q : g v y S2 with
      | none => rw [q] at p2; exact p2.elim
      | some pr =>
        obtain ⟨z, S3⟩ := pr
        rw [q] at p2
        intro W3 H3 t e3 s3 r3
        dsimp only at p2
        split at p2
        · rename_i n' fs' hi'
          obtain ⟨q1, hn', a', dx', vs', q2, ha', h1', h2'⟩ := ins_at s3 (r1.ext (e2.trans e3)) hi'
          cases q2
          split at p2
          · rename_i hl
            have p3 := p2.later e3
            exact ⟨dx', vs', h1', by rw [h2'.length]; exact hl, p3 W3 _ σ (ext_upd s3 ha') (set_ins s3 ha' h2' r3) ((((he.ext e1).ext e2).ext e3).ext (ext_upd s3 ha'))⟩
          · exact p2.elim
        · exact p2.elim
    · exact p1.elim
  · exact p1.elim
end rules
end PF

namespace PF
open PySem L2
variable [Tab]
/-! ### methods, and making instances, with what is raised wished for at the caller's slots -/
section slots
variable {X : Cx} {CX : CXT} {k : Nat} {f C : Addr} {fd : FuncData} {ps : List Str} {sp : Sp} {dvs : List V} {ds : List Value} {E : St → XK} {x m : Str} {p pos apos : Pos} {e o : Expr} {es : List Expr} {ta : TE} {t : TA}
def tMethS (C : Addr) (m : Str) (sp : Sp) (dvs : List V) (E : St → XK) (ta : TE) (t : TA) : TE := fun σ H Q => ta σ H fun x H1 => ∃ a dx fs, x = .ref a ∧ H1 a = some (.ins C dx fs) ∧ fs.lookup m = none ∧
  t σ H1 fun vs H2 => sp (x :: (vs ++ dvs)) H2 Q (E σ)
theorem pe_methS {pl : Sem Bool} (he : PE X o ta) (c : L2.Cls X.K C) (hm : Meth X.K C m f) (F : FnOk X.prog X.w X.K X.mg X.base CX k f fd ps sp) (hr : Room k X.A) (hb : Binds X.K fd ps ds) (hd : Vals dvs ds) (hx : ∀ σ, PassesAt CX X σ (E σ)) (ha : PA X (e :: es) t)
    (hst : starEach (e :: es) X.env = (false, eval e X.env) :: starEach es X.env := by rfl) (hpl : (backTo pos (starEach es X.env)).any (·.1) = false := by rfl)
    (ht : eval (.Call (.Attribute o m apos) (e :: es) [] pos) X.env = (do
      let ov ← eval o X.env
      standAt apos.atName
      let (f, first) ← holding [ov] (getMethod ov m pl)
      callWith pos f first (backTo pos (starEach (e :: es) X.env)) (backToKw pos (keywordEach [] X.env))) := by rfl) :
    PE X (.Call (.Attribute o m apos) (e :: es) [] pos) (tMethS C m sp dvs E ta t) := by
  refine ⟨fun pins s σ H Q I h => ?_⟩
  refine PySem.W.methodCall_KW (pl := pl) (thn (he.run pins s σ H _ I h) fun u s1 ⟨x, H1, I1, rx, a, dx, fs, ex, ea, l, q⟩ => ?_) ht
  subst ex
  obtain rfl : u = Value.ref a := rx
  refine getmeth_ok I1 ea c hm l ?_
  refine PySem.W.callWith_K (first := [.ref a]) (h₀ := X.base) I.ok.mod.kin hm.kp (thn (ha.run pos pins s1 σ H1 _ I1 q) fun us s2 ⟨vs, H2, I2, r, q2⟩ => ⟨I2.kIn, ?_⟩) hst hpl
  exact run_fnSD (us := .ref a :: us) (vs := .ref a :: vs) F hr hb hd (hx σ) I2 (.cons rfl r) q2
theorem pe_methS0 {pl : Sem Bool} (he : PE X o ta) (c : L2.Cls X.K C) (hm : Meth X.K C m f) (F : FnOk X.prog X.w X.K X.mg X.base CX k f fd ps sp) (hr : Room k X.A) (hb : Binds X.K fd ps ds) (hd : Vals dvs ds) (hx : ∀ σ, PassesAt CX X σ (E σ))
    (ht : eval (.Call (.Attribute o m apos) [] [] pos) X.env = (do
      let ov ← eval o X.env
      standAt apos.atName
      let (f, first) ← holding [ov] (getMethod ov m pl)
      callWith pos f first (backTo pos (starEach [] X.env)) (backToKw pos (keywordEach [] X.env))) := by rfl) :
    PE X (.Call (.Attribute o m apos) [] [] pos) (tMethS C m sp dvs E ta L2.tNil) := by
  refine ⟨fun pins s σ H Q I h => ?_⟩
  refine PySem.W.methodCall_KW (pl := pl) (thn (he.run pins s σ H _ I h) fun u s1 ⟨x, H1, I1, rx, a, dx, fs, ex, ea, l, q⟩ => ?_) ht
  subst ex
  obtain rfl : u = Value.ref a := rx
  refine getmeth_ok I1 ea c hm l ?_
  exact PySem.W.callWith_K0 (first := [.ref a]) I1.kIn hm.kp (run_fnSD (us := [.ref a]) (vs := [.ref a]) F hr hb hd (hx σ) I1 (.cons rfl .nil) q)
def tMakeS (C : Addr) (sp : Sp) (dvs : List V) (E : St → XK) (t : TA) : TE := fun σ H Q => t σ H fun vs H1 => ∀ x dx, H1 x = none → H1 dx = none → dx ≠ x →
  sp (.ref x :: (vs ++ dvs)) (upd (upd H1 dx (.own x)) x (.ins C dx [])) (fun v H2 => v = .non ∧ Q (.ref x) H2) (E σ)
theorem run_makeS {pins : List (Addr × Obj)} {σ : St} {H : Hp} {s : Shared} {Q : VK} {us : List Value} {vs : List V} (M : Mk X.K C f) (F : FnOk X.prog X.w X.K X.mg X.base CX k f fd ps sp) (hr : Room (k + 1) X.A) (hb : Binds X.K fd ps ds) (hd : Vals dvs ds)
    (hx : PassesAt CX X σ (E σ)) (I : Inv X pins σ H s) (r : Vals vs us)
    (h : ∀ x dx, H x = none → H dx = none → dx ≠ x → sp (.ref x :: (vs ++ dvs)) (upd (upd H dx (.own x)) x (.ins C dx [])) (fun v H2 => v = .non ∧ Q (.ref x) H2) (E σ)) :
    wpAny (model X.prog X.w) X.A (call (.ref C) us) (EP X pins σ Q) X.xe s := by
  have hq := h (s.heap.objs.size + 1) s.heap.objs.size (I.hok.fresh (Nat.le_succ _)) (I.hok.fresh (Nat.le_refl _)) (Nat.ne_of_lt (Nat.lt_succ_self _))
  have I2 := Inv.made (C := C) I
  have r2 : Vals (V.ref (s.heap.objs.size + 1) :: (vs ++ dvs)) (Value.ref (s.heap.objs.size + 1) :: (us ++ ds)) := .cons rfl (r.append hd)
  have hl : (Value.ref (s.heap.objs.size + 1) :: us ++ ds).length = ps.length := by
    have e := r2.length
    rw [F.len _ _ _ _ hq] at e
    exact e.symm
  refine wpAny_call (make_map (f := f) I.kIn M.makes M.init (beq_iff_eq.mp M.fn) (codeAny_mono (F.run _ X.stack _ _ ⟨Value.ref (s.heap.objs.size + 1) :: us, []⟩ (Value.ref (s.heap.objs.size + 1) :: (us ++ ds)) _ _ (E σ) (hr.make C us [])
    (I2.env0.make C us []) (hb _ (Value.ref (s.heap.objs.size + 1) :: us) I2.kIn hl) r2 hq) fun r s' hq' => ?_))
  cases r with
  | error e => exact hx pins _ _ e s' I2 hq'
  | ok fl =>
    cases fl with
    | ret u =>
      obtain ⟨v, H', I3, rv, ev, q3⟩ := I2.after hq'
      subst ev
      exact ⟨rv, ⟨V.ref (s.heap.objs.size + 1), H', I3, rfl, q3⟩⟩
    | next => exact False.elim hq'
    | brk => exact False.elim hq'
    | cont => exact False.elim hq'
theorem pe_makeS (M : Mk X.K C f) (F : FnOk X.prog X.w X.K X.mg X.base CX k f fd ps sp) (hr : Room (k + 1) X.A) (hg : Gl X x) (hm : X.mg x = some (.ref C)) (hb : Binds X.K fd ps ds) (hd : Vals dvs ds) (hx : ∀ σ, PassesAt CX X σ (E σ))
    (ha : PA X (e :: es) t) (hdb : (x == ("__debug__" : Str)) = false := by decide) (he : starEach (e :: es) X.env = (false, eval e X.env) :: starEach es X.env := by rfl) (hpl : (backTo pos (starEach es X.env)).any (·.1) = false := by rfl) :
    PE X (.Call (.Name x p) (e :: es) [] pos) (tMakeS C sp dvs E t) := by
  refine ⟨fun pins s σ H Q I h => ?_⟩
  refine wpAny_Call_Name_kw (ld_glob I hg hm ?_ hdb)
  refine PySem.W.callWith_K (h₀ := X.base) I.ok.mod.kin M.kp (thn (ha.run pos pins s σ H _ I h) fun us s1 ⟨vs, H1, I1, r, q⟩ => ⟨I1.kIn, ?_⟩) he hpl
  exact run_makeS M F hr hb hd (hx σ) I1 r q
theorem pe_makeS0 (M : Mk X.K C f) (F : FnOk X.prog X.w X.K X.mg X.base CX k f fd ps sp) (hr : Room (k + 1) X.A) (hg : Gl X x) (hm : X.mg x = some (.ref C)) (hb : Binds X.K fd ps ds) (hd : Vals dvs ds) (hx : ∀ σ, PassesAt CX X σ (E σ))
    (hdb : (x == ("__debug__" : Str)) = false := by decide) : PE X (.Call (.Name x p) [] [] pos) (tMakeS C sp dvs E L2.tNil) := by
  refine ⟨fun pins s σ H Q I h => ?_⟩
  refine wpAny_Call_Name_kw (ld_glob I hg hm ?_ hdb)
  exact PySem.W.callWith_K0 I.kIn M.kp (run_makeS (us := []) M F hr hb hd (hx σ) I .nil h)
end slots
/-! ### over data -/
section rules
variable {X : Cx} {Wx : WX} {k n : Nat} {f C : Addr} {fd : FuncData} {ps : List Str} {F : FN} {x m : Str} {p pos apos : Pos} {e o : Expr} {es : List Expr} {fa : FA} {fo : FE}
def fMeth (C : Addr) (m : Str) (F : FN) (fo : FE) (fa : FA) : FE := fun en S => (fo en S).bind fun d S1 => match insAt S1 C d with
  | some (_, fs) => if fs.lookup m = none then (fa en S1).bind fun ds S2 => F (d :: ds) S2 else .no
  | none => .no
/-- a method as its callers see it -/
structure CalM (P : Program) (w : World) (K : PySem.W.Frag) (mg : Str → Option Value) (base : Heap) (C : Addr) (m : Str) (ps : List Str) (k : Nat) (F : FN) : Prop where
  ex : ∃ f fd, Meth K C m f ∧ Binds K fd ps [] ∧ FnOk P w K mg base (L2.CX P w) k f fd ps (spD K F ps.length)
theorem pf_meth {j : Nat} {pl : Sem Bool} (c : L2.Cls X.K C) (hc : CalM X.prog X.w X.K X.mg X.base C m ps k F) (hr : Room j X.A) (hj : k ≤ j) (tk : Takes X Wx) (ho : PFE X Wx o fo) (ha : PFA X Wx (e :: es) fa) (hn : ps.length = n := by rfl)
    (hst : starEach (e :: es) X.env = (false, eval e X.env) :: starEach es X.env := by rfl) (hpl : (backTo pos (starEach es X.env)).any (·.1) = false := by rfl)
    (ht : eval (.Call (.Attribute o m apos) (e :: es) [] pos) X.env = (do
      let ov ← eval o X.env
      standAt apos.atName
      let (f, first) ← holding [ov] (getMethod ov m pl)
      callWith pos f first (backTo pos (starEach (e :: es) X.env)) (backToKw pos (keywordEach [] X.env))) := by rfl) :
    PFE X Wx (.Call (.Attribute o m apos) (e :: es) [] pos) (fMeth C m (F.len n) fo fa) := by
  subst hn
  obtain ⟨f, fd, hm, hb, G⟩ := hc.ex
  refine ⟨fun W H σ en S Q he' hs hp => PE_w (pe_methS (pl := pl) pe_w c hm G (hr.mono hj) hb .nil (fun σ => passAt tk σ) pa_w hst hpl ht) (ho.run W H σ en S _ he' hs (Post.bind hp fun d S1 W1 H1 v e1 s1 r1 p1 => ?_))⟩
  split at p1
  · rename_i q fs hi
    obtain ⟨rfl, hn, a, dx, vs, rfl, hA, h1, h2⟩ := ins_at s1 r1 hi
    split at p1
    · rename_i hl
      refine ⟨a, dx, vs, rfl, h1, h2.miss hl, ha.run W1 H1 σ en S1 _ (he'.ext e1) s1 (Post.bind p1 fun ds S2 W2 H2 us e2 s2 r2 p2 => ?_)⟩
      rw [List.append_nil]
      unfold FN.len at p2
      split at p2
      · rename_i hl2
        have rr : DRels X.K W2 H2 (.ref q :: ds) (.ref a :: us) := by unfold DRels; exact ⟨_, _, rfl, r1.ext e2, r2⟩
        exact ⟨by rw [← rr.length]; exact hl2, W2, S2, .ref q :: ds, s2, rr, p2⟩
      · exact p2.elim
    · exact p1.elim
  · exact p1.elim
theorem pf_meth0 {j : Nat} {pl : Sem Bool} (c : L2.Cls X.K C) (hc : CalM X.prog X.w X.K X.mg X.base C m ps k F) (hr : Room j X.A) (hj : k ≤ j) (tk : Takes X Wx) (ho : PFE X Wx o fo) (hn : ps.length = n := by rfl)
    (ht : eval (.Call (.Attribute o m apos) [] [] pos) X.env = (do
      let ov ← eval o X.env
      standAt apos.atName
      let (f, first) ← holding [ov] (getMethod ov m pl)
      callWith pos f first (backTo pos (starEach [] X.env)) (backToKw pos (keywordEach [] X.env))) := by rfl) :
    PFE X Wx (.Call (.Attribute o m apos) [] [] pos) (fMeth C m (F.len n) fo fNil) := by
  subst hn
  obtain ⟨f, fd, hm, hb, G⟩ := hc.ex
  refine ⟨fun W H σ en S Q he' hs hp => PE_w (pe_methS0 (pl := pl) pe_w c hm G (hr.mono hj) hb .nil (fun σ => passAt tk σ) ht) (ho.run W H σ en S _ he' hs (Post.bind hp fun d S1 W1 H1 v e1 s1 r1 p1 => ?_))⟩
  split at p1
  · rename_i q fs hi
    obtain ⟨rfl, hn, a, dx, vs, rfl, hA, h1, h2⟩ := ins_at s1 r1 hi
    split at p1
    · rename_i hl
      refine ⟨a, dx, vs, rfl, h1, h2.miss hl, ?_⟩
      show spD X.K F ps.length ([.ref a] ++ []) H1 Q _
      have p2 : Post X.K DRel W1 H1 (FN.len F ps.length [.ref q] S1) Q (Wish Wx σ) := p1
      unfold FN.len at p2
      split at p2
      · rename_i hl2
        have rr : DRels X.K W1 H1 [.ref q] [.ref a] := by unfold DRels; exact ⟨_, _, rfl, r1, by unfold DRels; rfl⟩
        exact ⟨by simpa using hl2, W1, S1, [.ref q], s1, rr, p2⟩
      · exact p2.elim
    · exact p1.elim
  · exact p1.elim
/-- C(..) -/
def fMake (C : Addr) (F : FN) (fa : FA) : FE := fun en S => (fa en S).bind fun ds S1 => match F (.ref S1.length :: ds) (S1 ++ [.ins C []]) with
  | .ok .non S2 => .ok (.ref S1.length) S2
  | .ex E S2 => .ex E S2
  | _ => .no
theorem make_post {K : PySem.W.Frag} {W : Wd} {H : Hp} {S : So} {ds : List D} {vs : List V} {Q : VK} {E : XK} {n : Nat} (s : SRel K W H S) (r : DRels K W H ds vs)
    (h : Post K DRel W H (match FN.len F n (.ref S.length :: ds) (S ++ [.ins C []]) with
      | .ok .non S2 => .ok (.ref S.length) S2
      | .ex E S2 => .ex E S2
      | _ => .no) Q E) {x dx : Addr} (hx : H x = none) (hdx : H dx = none) (hne : dx ≠ x) :
    spD K F n (.ref x :: vs) (upd (upd H dx (.own x)) x (.ins C dx [])) (fun v H2 => v = .non ∧ Q (.ref x) H2) E := by
  have hx' : upd H dx (.own x) x = none := by rw [upd_ne (fun q => hne q.symm)]; exact hx
  have s1 : SRel K W (upd H dx (.own x)) S := s.more hdx
  have e1 : Ext K W H W (upd H dx (.own x)) := ext_more s hdx
  have s2 : SRel K (W.add x) (upd (upd H dx (.own x)) x (.ins C dx [])) (S ++ [.ins C []]) := s1.new hx' trivial ⟨dx, [], upd_same, rfl⟩
  have e2 : Ext K W (upd H dx (.own x)) (W.add x) (upd (upd H dx (.own x)) x (.ins C dx [])) := ext_add s1 hx'
  have e := e1.trans e2
  have rn : DRel K (W.add x) (upd (upd H dx (.own x)) x (.ins C dx [])) (.ref S.length) (.ref x) := drel_add s1
  have rr : DRels K (W.add x) (upd (upd H dx (.own x)) x (.ins C dx [])) (.ref S.length :: ds) (.ref x :: vs) := by unfold DRels; exact ⟨_, _, rfl, rn, r.ext e⟩
  unfold FN.len at h
  by_cases hl : (D.ref S.length :: ds).length = n
  · rw [if_pos hl] at h
    refine ⟨by rw [← rr.length]; exact hl, W.add x, S ++ [.ins C []], .ref S.length :: ds, s2, rr, ?_⟩
    have h := h.later e
    cases q : F (.ref S.length :: ds) (S ++ [.ins C []]) with
    | no => rw [q] at h; exact h
    | ex E' S2 => rw [q] at h; exact h
    | ok d S2 =>
      rw [q] at h
      cases d with
      | non =>
        intro W3 H3 v e3 s3 r3
        unfold DRel at r3
        exact ⟨r3, h W3 H3 (.ref x) e3 s3 (rn.ext e3)⟩
      | _ => exact h.elim
  · rw [if_neg hl] at h; exact h.elim
/-- a class as its makers see it -/
structure CalC (P : Program) (w : World) (K : PySem.W.Frag) (mg : Str → Option Value) (base : Heap) (x : Str) (C : Addr) (ps : List Str) (k : Nat) (F : FN) : Prop where
  ex : ∃ f fd, mg x = some (.ref C) ∧ Mk K C f ∧ Binds K fd ps [] ∧ FnOk P w K mg base (L2.CX P w) k f fd ps (spD K F ps.length)
theorem pf_make {j : Nat} (hc : CalC X.prog X.w X.K X.mg X.base x C ps k F) (hr : Room j X.A) (hj : k + 1 ≤ j) (hg : Gl X x) (tk : Takes X Wx)
    (ha : PFA X Wx (e :: es) fa) (hn : ps.length = n := by rfl) (hdb : (x == ("__debug__" : Str)) = false := by decide) (he : starEach (e :: es) X.env = (false, eval e X.env) :: starEach es X.env := by rfl) (hpl : (backTo pos (starEach es X.env)).any (·.1) = false := by rfl) :
    PFE X Wx (.Call (.Name x p) (e :: es) [] pos) (fMake C (F.len n) fa) := by
  subst hn
  obtain ⟨f, fd, hm, M, hb, G⟩ := hc.ex
  refine ⟨fun W H σ en S Q he' hs hp => PE_w (pe_makeS M G (hr.mono hj) hg hm hb .nil (fun σ => passAt tk σ) pa_w hdb he hpl) (ha.run W H σ en S _ he' hs (Post.bind hp fun ds S1 W1 H1 vs e1 s1 r1 p1 => fun y dy hy hdy hne => ?_))⟩
  rw [List.append_nil]
  exact make_post s1 r1 p1 hy hdy hne
theorem pf_make0 {j : Nat} (hc : CalC X.prog X.w X.K X.mg X.base x C ps k F) (hr : Room j X.A) (hj : k + 1 ≤ j) (hg : Gl X x) (tk : Takes X Wx) (hn : ps.length = n := by rfl) (hdb : (x == ("__debug__" : Str)) = false := by decide) :
    PFE X Wx (.Call (.Name x p) [] [] pos) (fMake C (F.len n) fNil) := by
  subst hn
  obtain ⟨f, fd, hm, M, hb, G⟩ := hc.ex
  refine ⟨fun W H σ en S Q he' hs hp => PE_w (pe_makeS0 M G (hr.mono hj) hg hm hb .nil (fun σ => passAt tk σ) hdb) (fun y dy hy hdy hne => ?_)⟩
  exact make_post (ds := []) (vs := []) hs (by unfold DRels; rfl) hp hy hdy hne
end rules
end PF
namespace PF
open PySem L2
variable [Tab]
section tgt
variable {X : Cx} {Wx : WX} {C : Addr} {f : Str} {o value : Expr} {fo fv : FE} {pos pos' : Pos}
/-- o.f as a target -/
def gtFld (C : Addr) (f : Str) (fo : FE) : FG := fun y en S => match fo en S with
  | .ok d S1 => match insAt S1 C d with
    | some (n, fs) => if fs.length < 1000 then some (en, S1.set n (.ins C (putD f y fs))) else none
    | none => none
  | _ => none
theorem pfs_fldG (c : L2.Cls X.K C) (na : NoAttr X.K C f) (ho : PFE X Wx o fo) (hv : PFE X Wx value fv) (hsw : swapsWith value (some (.Attribute o f pos')) pos.line X.env = pure false := by rfl) : PFS X Wx (.Assign [.Attribute o f pos'] value pos) (fAsg fv (gtFld C f fo)) := by
  refine ⟨fun W H σ en S Z he hs hp => (pfs_fld c na ho hv hsw).run W H σ en S Z he hs ?_⟩
  unfold fSetF
  unfold fAsg at hp
  cases h1 : fv en S with
  | no => rw [h1] at hp; exact hp
  | ex E S1 => rw [h1] at hp; exact hp
  | ok y S1 =>
    rw [h1] at hp
    simp only [fthen] at hp ⊢
    unfold gtFld at hp
    cases h2 : fo en S1 with
    | no => rw [h2] at hp; exact hp.elim
    | ex E S2 => rw [h2] at hp; exact hp.elim
    | ok d S2 =>
      rw [h2] at hp
      dsimp only at hp ⊢
      cases h3 : insAt S2 C d with
      | none => rw [h3] at hp; exact hp.elim
      | some q =>
        obtain ⟨n, fs⟩ := q
        rw [h3] at hp
        dsimp only at hp ⊢
        by_cases hl : fs.length < 1000
        · rw [if_pos hl] at hp ⊢; exact hp
        · rw [if_neg hl] at hp; exact hp.elim
end tgt
end PF

namespace PF
open PySem L2
variable [Tab]
/-! ### self.f op= e, told as an assignment -/
section aug
variable {X : Cx} {Wx : WX} {C : Addr} {f x : Str} {value : Expr} {fv : FE} {pos tpos npos : Pos} {i : Nat} {g : G2}
theorem aug_eq (en : En) (S : So) : fAugF C f (fVar i) fv g en S = fAsg (fOp g (fFld C f (fVar i)) fv) (gtFld C f (fVar i)) en S := by
  unfold fAugF fAsg fOp fFld gtFld
  cases hv : fVar i en S with
  | no => rfl
  | ex E S1 => rfl
  | ok d S1 =>
    have hd : ∀ S', fVar i en S' = .ok d S' := by
      unfold fVar at hv ⊢
      cases q : en[i]? with
      | none => rw [q] at hv; cases hv
      | some o =>
        cases o with
        | none => rw [q] at hv; cases hv
        | some d' => rw [q] at hv; cases hv; intro S'; rfl
    simp only [fthen, Rs.bind]
    cases h1 : insAt S1 C d with
    | none => rfl
    | some q =>
      obtain ⟨n, fs⟩ := q
      dsimp only
      cases h2 : fs.lookup f with
      | none => rfl
      | some v =>
        dsimp only
        cases h3 : fv en S1 with
        | no => rfl
        | ex E S2 => rfl
        | ok y S2 =>
          dsimp only
          cases h4 : g v y S2 with
          | none => rfl
          | some q =>
            obtain ⟨z, S3⟩ := q
            simp only [ofO, hd]
            cases h5 : insAt S3 C d with
            | none => rfl
            | some q =>
              obtain ⟨n', fs'⟩ := q
              dsimp only
              by_cases h6 : fs'.length < 1000
              · rw [if_pos h6, if_pos h6]; rfl
              · rw [if_neg h6, if_neg h6]; rfl
theorem pfs_fldaugV {op : Operator} {r : R2} (c : L2.Cls X.K C) (na : NoAttr X.K C f) (hop : OpR X (inplaceOp op) r) (hg : OpD X.K r g) (ho : PFE X Wx (.Name x npos) (fVar i)) (hv : PFE X Wx value fv) : PFS X Wx (.AugAssign (.Attribute (.Name x npos) f tpos) op value pos) (fAsg (fOp g (fFld C f (fVar i)) fv) (gtFld C f (fVar i))) :=
  ⟨fun W H σ en S Z he hs hp => (pfs_fldaug c na hop hg ho hv).run W H σ en S Z he hs (by rw [aug_eq]; exact hp)⟩
end aug
end PF

namespace PF
open PySem L2
variable [Tab]
/-- a def of which nothing is asked -/
theorem fn_none {P : Program} {w : World} {K : PySem.W.Frag} {mg : Str → Option Value} {base : Heap} {CX : CXT} {k n : Nat} {f : Addr} {fd : FuncData} {ps : List Str} {F : FN} (hF : ∀ ds S, F ds S = .no) : FnOk P w K mg base CX k f fd ps (spD K F n) where
  len := fun vs H Q E h => by
    obtain ⟨_, W, S, ds, _, _, hp⟩ := h
    rw [hF] at hp; exact hp.elim
  run := fun A outer s H a us vs Q E hr he hb r h => by
    obtain ⟨_, W, S, ds, _, _, hp⟩ := h
    rw [hF] at hp; exact hp.elim
end PF

namespace PF
open PySem L2
variable [Tab]
/-! ### range with a step -/
section r3
variable {X : Cx} {Wx : WX} {tg a b c : Expr} {fa : FA} {p pos : Pos}
def rg3Ok (i j c : Int) : Bool := decide (c ≠ 0) && decide (c.natAbs < 1073741824) && Builtin.Range.small i j c && decide (0 ≤ Builtin.Range.rangeSize i j c)
def rg3 (i j c : Int) : List D := rgC i c (Builtin.Range.rangeSize i j c).toNat
def fiRng3 (fa : FA) : FI := fun en S => (fa en S).bind fun ds S1 => match ds with
  | [.int i, .int j, .int c] => if rg3Ok i j c = true then .ok (.items (rg3 i j c)) S1 else .no
  | _ => .no
theorem drels3 {K : PySem.W.Frag} {W : Wd} {H : Hp} {a b c : D} {vs : List V} (h : DRels K W H [a, b, c] vs) : ∃ x y z, vs = [x, y, z] ∧ DRel K W H a x ∧ DRel K W H b y ∧ DRel K W H c z := by
  unfold DRels at h
  obtain ⟨x, r, rfl, h1, h2⟩ := h
  obtain ⟨y, z, rfl, h3, h4⟩ := drels2 h2
  exact ⟨x, y, z, rfl, h1, h3, h4⟩
theorem pfi_range3 (hg : Gl X "range") (hm : X.mg "range" = none) (ha : PFA X Wx [a, b, c] fa) (hs : starEach [a, b, c] X.env = (false, eval a X.env) :: starEach [b, c] X.env := by rfl) (hpl : (backTo pos (starEach [b, c] X.env)).any (·.1) = false := by rfl) : PFI X Wx tg (.Call (.Name "range" p) [a, b, c] [] pos) (fiRng3 fa) := by
  refine ⟨fun W H σ en S Q he hs' hp => PI_w (pi_range3 hg hm pa_w hs hpl) (ha.run W H σ en S _ he hs' (Post.bind hp fun ds S1 W1 H1 vs e1 s1 r1 p1 => ?_))⟩
  split at p1
  · obtain ⟨v, u, t, rfl, h1, h2, h3⟩ := drels3 r1
    unfold DRel at h1 h2 h3; subst h1; subst h2; subst h3
    split at p1
    · rename_i i j k hc
      simp only [rg3Ok, Bool.and_eq_true, decide_eq_true_eq] at hc
      exact ⟨i, j, k, _, rfl, ⟨hc.1.1.1, hc.1.1.2, hc.1.2, (Int.toNat_of_nonneg hc.2).symm⟩, p1.here s1 itr_rangeC⟩
    · exact p1.elim
  · exact p1.elim
end r3
end PF

namespace PF
open PySem PySem.Spec PyProof.Rows L2
variable [Tab]
/-! ### raise C(e) -/
section
variable {X : Cx} {Wx : WX} {C : Addr} {bmB : List Value} {B newId initId : String} {x : Str} {p pos apos : Pos} {e : Expr} {t : TA} {fa : FA}
theorem pmk_ownE (F : ExcBaseFacts B newId initId bmB) (q : PySem.W.excIn X.K C bmB newId = true) (gC : X.mg x = some (.ref C)) (kC : PySem.W.keepIn X.K (.ref C) = true) (r : Raises X (.ref C)) (hg : Gl X x) (ha : PA X [e] t)
    (hdb : (x == ("__debug__" : Str)) = false := by decide) (he : starEach [e] X.env = [(false, eval e X.env)] := by rfl) : PMk X (.Call (.Name x p) [e] [] pos) (fun σ H Q => t σ H fun vs H1 => vs.length = 1 ∧ Q (.ref C) none H1) := by
  intro pins s σ H Q I h
  refine wpAny_Call_Name_kw (ld_glob I hg gC ?_ hdb)
  refine PySem.W.callWith_K (h₀ := X.base) I.ok.mod.kin kC (thn (ha.run pos pins s σ H _ I h) fun us s1 hh => ?_) he
  obtain ⟨vs, H1, I1, r1, ev, q1⟩ := hh
  refine ⟨I1.kIn, ?_⟩
  have hl : us.length = 1 := by rw [← r1.length]; exact ev
  match us, hl with
  | [u], _ =>
    show wpAny _ _ (call (.ref C) [u]) _ _ _
    obtain ⟨bm, N, nm, qn, bs, hdct, sn, sub, ab, col, dd, k0, k1, k2, k3, k5, mN, hC, hN, hni, T⟩ := exc_obj I1.kIn q
    refine wpAny_call_exc_subT F T hC hN hni (fun h' e hm => ?_) (by show 1 ≤ sizeLine; rw [sizeLine_eq]; omega)
    exact mk_of I1 hm r q1 (I1.hok.gone hm.new)
def fRaiseE (C : Addr) (fa : FA) : FS := fun en S => fthen en (fa en S) fun ds S1 => if ds.length = 1 then .ex C en S1 else .no
theorem pfs_raiseX (ex : Exc X.K X.mg x C) (hc : X.calm = true) (tk : Takes X Wx) (ha : PFA X Wx [e] fa) (hg : Gl X x) (hdb : (x == ("__debug__" : Str)) = false := by decide) (he : starEach [e] X.env = [(false, eval e X.env)] := by rfl) :
    PFS X Wx (.Raise (some (.Call (.Name x p) [e] [] apos)) none pos) (fRaiseE C fa) := by
  refine ⟨fun W H σ en S Z he' hs hp => PS_w (ps_raise hc tk (pmk_ownE PySem.F.excBase_ValueError ex.q ex.g ex.k (raises_own ex.b ex.t) hg pa_w hdb he)) (ha.run W H σ en S _ he' hs (post_then he' hp fun ds S1 W1 H1 vs e1 s1 r1 p1 => ?_))⟩
  split at p1
  · rename_i hl
    exact ⟨by rw [← r1.length]; exact hl, p1 W1 H1 σ none Ext.refl s1 (he'.ext e1)⟩
  · exact p1.elim
end
end PF

namespace PF
open PySem PySem.Spec PyProof.Rows L2
/-! ### sorted over rows of ints -/
def lexL : List Int → List Int → Bool
  | [], [] => false
  | [], _ :: _ => true
  | _ :: _, [] => false
  | x :: xs, y :: ys => if x = y then lexL xs ys else decide (x < y)
theorem lexL_asym : ∀ xs ys, lexL xs ys = true → lexL ys xs = false
  | [], [], h => rfl
  | [], _ :: _, h => rfl
  | _ :: _, [], h => by cases h
  | x :: xs, y :: ys, h => by
    simp only [lexL] at h ⊢
    by_cases e : x = y
    · rw [if_pos e] at h; rw [if_pos e.symm]; exact lexL_asym xs ys h
    · rw [if_neg e] at h; rw [if_neg (fun q => e q.symm)]
      simp at h ⊢; omega
theorem lexL_tr : ∀ xs ys zs, lexL ys xs = false → lexL zs ys = false → lexL zs xs = false
  | [], ys, [], h1, h2 => rfl
  | [], ys, z :: zs, h1, h2 => rfl
  | x :: xs, [], zs, h1, h2 => by cases h1
  | x :: xs, y :: ys, [], h1, h2 => by cases h2
  | x :: xs, y :: ys, z :: zs, h1, h2 => by
    simp only [lexL] at h1 h2 ⊢
    by_cases e1 : y = x
    · rw [if_pos e1] at h1
      by_cases e2 : z = y
      · rw [if_pos e2] at h2
        rw [if_pos (e2.trans e1)]; exact lexL_tr xs ys zs h1 h2
      · rw [if_neg e2] at h2
        rw [if_neg (fun q => e2 (q.trans e1.symm))]
        simp at h2 ⊢; omega
    · rw [if_neg e1] at h1
      by_cases e2 : z = y
      · rw [if_neg (fun q => e1 (e2 ▸ q))]
        simp at h1 ⊢; omega
      · rw [if_neg e2] at h2
        simp at h1 h2
        by_cases e3 : z = x
        · omega
        · rw [if_neg e3]; simp; omega
theorem swo_lexL {α : Type} (k : α → List Int) : SrtO.Swo fun v u => lexL (k v) (k u) := ⟨fun x y h => lexL_asym _ _ h, fun x y z h1 h2 => lexL_tr _ _ _ h1 h2⟩
section srt
variable {prog : Program} {w : World} {A : Around} {s : Shared}
/-- a tuple of ints at v -/
def IsRow (h : Heap) (v : Value) (ns : List Int) : Prop := ∃ a o its n, v = .ref a ∧ h.get? a = some o ∧ o.cls = .type "tuple" ∧ o.data = .seq its n ∧ Vals (ns.map V.int) its.toList
theorem IsRow.keeps {h h' : Heap} {v : Value} {ns : List Int} (p : IsRow h v ns) (k : ∀ b o, h.get? b = some o → o.cls = .type "tuple" → h'.get? b = some o) : IsRow h' v ns := by
  obtain ⟨a, o, its, n, e, ho, hc, hd, r⟩ := p
  exact ⟨a, o, its, n, e, k a o ho hc, hc, hd, r⟩
theorem kat_ints {b : Bool} : ∀ (ns ms : List Int) (xs ys : List Value) (i : Nat) (fin : Bool), Vals (ns.map V.int) xs → Vals (ms.map V.int) ys → fin = decide (ns.length < ms.length) → PySem.W.KatLex prog w A b fin (fun r s' => s' = s ∧ r = lexL ns ms) (xs.zip ys) i s
  | [], ms, xs, ys, i, fin, hx, hy, hf => by
    cases hx
    refine PySem.W.kat_nil ⟨rfl, ?_⟩
    cases ms with
    | nil => rw [hf]; rfl
    | cons m ms => rw [hf]; simp [lexL]
  | n :: ns, [], xs, ys, i, fin, hx, hy, hf => by
    cases hy
    cases hx with
    | cons h1 h2 => exact PySem.W.kat_nil ⟨rfl, by rw [hf]; simp [lexL]⟩
  | n :: ns, m :: ms, xs, ys, i, fin, hx, hy, hf => by
    cases hx with
    | cons h1 h2 =>
      cases hy with
      | cons k1 k2 =>
        obtain ⟨t, rfl⟩ := h1
        obtain ⟨u, rfl⟩ := k1
        refine PySem.W.kat_cons (SeqAt.EqAt.int_int n t m u prog w _ _ ?_)
        refine PySem.W.kat_go (fun e1 => ?_) (fun e1 => ?_)
        · have ex : n = m := by simpa using e1
          have := kat_ints (b := b) ns ms _ _ (i + 1) fin h2 k2 (by rw [hf]; simp)
          refine PySem.W.kat_yes ?_
          have e2 : lexL (n :: ns) (m :: ms) = lexL ns ms := by simp [lexL, ex]
          rw [e2]; exact this
        · have ex : ¬ n = m := by simpa using e1
          have e2 : lexL (n :: ns) (m :: ms) = decide (n < m) := by simp [lexL, ex]
          refine PySem.W.kat_no ?_
          rw [e2]
          cases hb : (b && i == 0) with
          | true => exact oneLt_int ⟨rfl, rfl⟩
          | false => exact PySem.W.kat_one _ _ (PyProof.Rows.lt_int ⟨rfl, rfl⟩)
end srt
end PF
namespace PF
open PySem PySem.Spec PyProof.Rows L2
section srt2
variable {prog : Program} {w : World} {A : Around} {s : Shared}
theorem row_cmp {vs : List Value} {k : Value → List Int} (hp : ∀ v ∈ vs, IsRow s.heap v (k v)) : SrtO.Cmp prog w A s (tuples' true) (fun p => p.1 ∈ vs) (SrtO.lt2 fun v u => lexL (k v) (k u)) := by
  intro p q hm hm'
  obtain ⟨a, o, its, n, e, ho, hc, hd, r⟩ := hp _ hm
  obtain ⟨a', o', its', n', e', ho', hc', hd', r'⟩ := hp _ hm'
  show wpAny (model prog w) A (keyLt' (tuples' true) p.1 q.1) (fun r s' => s' = s ∧ r = lexL (k p.1) (k q.1)) (fun _ _ => False) s
  generalize k p.1 = ns at r ⊢
  generalize k q.1 = ms at r' ⊢
  rw [e, e']
  refine PySem.W.kat_lt ho hd ho' hd' (kat_ints ns ms _ _ 0 _ r r' ?_)
  have l1 := r.length
  have l2 := r'.length
  simp at l1 l2
  rw [l1, l2]
theorem firsts_rows {h : Heap} {k : Value → List Int} : ∀ {vs : List Value}, (∀ v ∈ vs, IsRow h v (k v) ∧ k v ≠ []) → ∃ fs, PySem.W.KatTups h vs fs ∧ fs.length = vs.length ∧ ∀ f ∈ fs, ∃ x t, f = Value.int x t
  | [], _ => ⟨[], PySem.W.KatTups.nil, rfl, by simp⟩
  | v :: vs, hp => by
    obtain ⟨fs, h1, h2, h3⟩ := firsts_rows (vs := vs) fun u hu => hp u (by simp [hu])
    obtain ⟨⟨a, o, its, n, e, ho, hc, hd, r⟩, hne⟩ := hp v (by simp)
    cases hk : k v with
    | nil => exact absurd hk hne
    | cons x ns =>
      rw [hk] at r
      generalize hl : its.toList = l at r
      cases r with
      | cons r1 r2 =>
        obtain ⟨t, rfl⟩ := r1
        rename_i us
        refine ⟨.int x t :: fs, ?_, by simp [h2], fun f hf => ?_⟩
        · rw [e]
          refine PySem.W.KatTups.cons ho hc hd ?_ h1
          have : its.toList[0]? = some (Value.int x t) := by rw [hl]; rfl
          simpa using this
        · rcases List.mem_cons.mp hf with rfl | hf
          · exact ⟨x, t, rfl⟩
          · exact h3 f hf
theorem rows_sortableO {a : Addr} {vs : List Value} {k : Value → List Int} (h0 : 0 < vs.length) (hp : ∀ v ∈ vs, IsRow s.heap v (k v) ∧ k v ≠ []) (ha : ∀ o, s.heap.get? a = some o → o.cls ≠ .type "tuple") : SrtO.SortableO prog w A s a vs fun v u => lexL (k v) (k u) := by
  intro h' keep
  have hp' : ∀ v ∈ vs, IsRow h' v (k v) := fun v hm => (hp v hm).1.keeps fun b o e c => keep b o (fun z => by subst z; exact ha o e c) e
  obtain ⟨fs, h1, h2, h3⟩ := firsts_rows (h := h') (k := k) (vs := vs) fun v hm => ⟨hp' v hm, (hp v hm).2⟩
  refine ⟨tuples' true, fun Q E hq => ?_, row_cmp hp'⟩
  refine PySem.W.kat_kind (T := .type "int") h1 (by omega) (fun f hm => ?_) (by rfl) ?_
  · obtain ⟨x, t, rfl⟩ := h3 f hm
    exact PySem.W.Looks.now
  · have e : (Value.type "int" != Value.type "tuple") = true := by first | decide +kernel | rfl | decide
    rw [e]
    exact hq
end srt2
end PF

namespace PF
open PySem PySem.Spec PyProof.Rows L2
section srt
variable {prog : Program} {w : World} {A : Around} {s : Shared} {E : Value → Shared → Prop}
theorem sorted_rows {l : Addr} {vs : List Value} {k : Value → List Int} {Q : Value → Shared → Prop} (hl : s.heap.IsList l vs.toArray) (hz : vs.length ≤ sizeLine) (hp : ∀ v ∈ vs, IsRow s.heap v (k v) ∧ k v ≠ [])
    (h : ∀ (h' : Heap) (d : Addr) (out : List Value), SrtO.Srtd (fun v u => lexL (k v) (k u)) out → SrtO.Stb (fun v u => lexL (k v) (k u)) out vs → (∀ b o, s.heap.get? b = some o → h'.get? b = some o) → s.heap.objs.size ≤ d → (∃ n, h'.get? d = some (seqObj "list" out.toArray n)) → Q (.ref d) { s with heap := h' }) :
    wpAny (model prog w) A (call (.builtin "sorted") [.ref l]) Q E s := by
  refine SrtO.sorted_ord (swo_lexL k) hl hz (fun h2 h₁ a ha kk => ?_) fun out hs hb => ?_
  · refine rows_sortableO (s := { s with heap := h₁ }) (by omega) (fun v hm => ⟨(hp v hm).1.keeps fun b o e _ => (kk b o e).2, (hp v hm).2⟩) fun o e => ?_
    have e' : some o = some (seqObj "list" vs.toArray 0) := e.symm.trans ha
    cases e'
    intro c
    exact absurd (Value.type.inj c) (by decide)
  · exact h _ _ out hs hb (fun b o e => sortedAll_old e) (Nat.le_succ _) (sortedAll_at s.heap vs out.toArray)
end srt
end PF
namespace PF
open PySem PySem.Spec PyProof.Rows L2
section tupc
variable {prog : Program} {w : World} {A : Around} {s : Shared} {E : Value → Shared → Prop}
/-- what a tuple holds is gathered like a list's -/
theorem collect_tup {l : Addr} {vs : List Value} {Q : List Value → Shared → Prop} (hl : IsTup s.heap l vs.toArray)
    (h : Q vs { s with heap := (s.heap.push (seqObj "list" #[] 0)).update s.heap.objs.size (Obj.mapSeq (· ++ vs.toArray)) }) (hsz : vs.length ≤ sizeLine) :
    wpAny (model prog w) A (collect (.ref l)) Q E s := by
  obtain ⟨o, ho, hc, n, hd⟩ := id hl
  unfold collect
  refine wpAny_bind (wpAny_runValue (codeAny_builtin entry_proto_collect' ?_))
  show wpAny _ _ (do again (.builtin "list.__iadd__" ⟨[← newList [], .ref l], []⟩)) _ _ s
  refine wpAny_bind (wpAny_newList (wpAny_pure ⟨Code.quiet_builtin _ (by decide +kernel), codeAny_builtin entry_list_iadd' ?_⟩))
  show wpAny _ _ (Builtin.List.listExtendWith (.ref s.heap.objs.size) (.ref l) (.ref s.heap.objs.size)) _ _ { s with heap := s.heap.push (seqObj "list" #[] 0) }
  unfold Builtin.List.listExtendWith
  have ho' : (s.heap.push (seqObj "list" #[] 0)).get? l = some o := Heap.get?_push_of_some _ ho
  refine wpAny_bind (wpAny_typeOf (T := "tuple") ⟨o, ho', hc⟩ ?_)
  have ht : (Value.type "tuple" == Value.type "tuple") = true := by rfl
  rw [if_pos (by rw [ht]; simp)]
  refine wpAny_bind (listItems_at ho' hd ?_)
  refine wpAny_bind (listItems_at (xs := #[]) (n := 0) (Heap.get?_push_size _ rfl) rfl ?_)
  rw [if_neg (by simp)]
  refine wpAny_bind (listUpdate_at (xs := #[]) (n := 0) (Heap.get?_push_size _ rfl) rfl ?_ (Nat.zero_le _) (by show (#[] ++ vs.toArray).size ≤ sizeLine + 1; simp only [Array.size_append, List.size_toArray, List.length_nil]; omega))
  refine wpAny_pure ?_
  show wpAny (model prog w) A (do
      let o ← load s.heap.objs.size
      match o.data with
      | .seq xs _ => pure xs.toList
      | _ => unsupported "internal:collect") Q E { s with heap := (s.heap.push (seqObj "list" #[] 0)).update s.heap.objs.size (Obj.mapSeq (· ++ vs.toArray)) }
  refine wpAny_bind (wpAny_load (get?_update_seq (Heap.get?_push_size _ rfl) _) ?_)
  show wpAny _ _ (pure ((#[] : Array Value) ++ vs.toArray).toList) Q E _
  rw [show ((#[] : Array Value) ++ vs.toArray).toList = vs by simp]
  exact wpAny_pure h
end tupc
end PF
namespace PF
open PySem PySem.Spec PyProof.Rows L2
section tups
variable {prog : Program} {w : World} {A : Around} {s : Shared} {E : Value → Shared → Prop}
/-- sorted(t), t a tuple -/
theorem sorted_ordT {l : Addr} {vs : List Value} {ltv : Value → Value → Bool} {Q : Value → Shared → Prop} (O : SrtO.Swo ltv) (hl : IsTup s.heap l vs.toArray) (hz : vs.length ≤ sizeLine)
    (hS : 2 ≤ vs.length → ∀ (h₁ : Heap) (a : Addr), h₁.get? a = some (seqObj "list" vs.toArray 0) → (∀ b o, s.heap.get? b = some o → b ≠ a ∧ h₁.get? b = some o) → SrtO.SortableO prog w A.in1.in1 { s with heap := h₁ } a vs ltv)
    (h : ∀ out : List Value, SrtO.Srtd ltv out → SrtO.Stb ltv out vs → Q (.ref (s.heap.objs.size + 1)) { s with heap := sortedAll s.heap vs out.toArray }) :
    wpAny (model prog w) A (call (.builtin "sorted") [.ref l]) Q E s := by
  refine Calls.call_function_entry kind_sorted plain_sorted entry_sorted (args_sorted1 _) ?_
  unfold Builtin.«sorted»
  refine wpAny_bind (m := checkCount "sorted" 1 1 _) (wpAny_pure ?_)
  refine wpAny_bind (collect_tup hl ?_ hz)
  refine wpAny_bind (wpAny_newList ?_ hz)
  have hsz : ((s.heap.push (seqObj "list" #[] 0)).update s.heap.objs.size (Obj.mapSeq (· ++ vs.toArray))).objs.size = s.heap.objs.size + 1 := by
    rw [Heap.size_update, size_push']
  have hoL : (((s.heap.push (seqObj "list" #[] 0)).update s.heap.objs.size (Obj.mapSeq (· ++ vs.toArray))).push (seqObj "list" vs.toArray 0)).get? (s.heap.objs.size + 1) = some (seqObj "list" vs.toArray 0) := by
    rw [← hsz]; exact Heap.get?_push_size _ rfl
  have keep : ∀ b o, s.heap.get? b = some o → b ≠ s.heap.objs.size + 1 ∧ (((s.heap.push (seqObj "list" #[] 0)).update s.heap.objs.size (Obj.mapSeq (· ++ vs.toArray))).push (seqObj "list" vs.toArray 0)).get? b = some o := fun b o q => by
    have hlt : b < s.heap.objs.size := Heap.lt_size q
    refine ⟨Nat.ne_of_lt (Nat.lt_succ_of_lt hlt), Heap.get?_push_of_some _ ?_⟩
    rw [Heap.get?_update_ne _ _ _ _ (Nat.ne_of_lt hlt)]
    exact Heap.get?_push_of_some _ q
  show wpAny _ _ _ _ _ { s with heap := ((s.heap.push (seqObj "list" #[] 0)).update s.heap.objs.size (Obj.mapSeq (· ++ vs.toArray))).push (seqObj "list" vs.toArray 0) }
  rw [hsz]
  refine wpAny_bind (wpAny_holding (wpAny_call_entry slot_list_sort ⟨_, hoL, rfl⟩ entry_list_sort (SrtO.list_sort_ord O hoL hz (fun h2 => hS h2 _ _ hoL keep) fun out hs hb => ⟨_, rfl, ?_⟩) (args_list_sort _)))
  exact wpAny_pure ⟨_, rfl, h out hs hb⟩
end tups
end PF

namespace PF
open PySem PySem.Spec PyProof.Rows L2
section rule
variable {X : Cx}
def rSortR (K : PySem.W.Frag) : List V → Hp → VK → Prop := fun vs H Q => ∃ (a : Addr) (xs : List V) (k : V → List Int), vs = [V.ref a] ∧ (SqL K H a xs ∨ SqT K H a xs) ∧ (∀ x ∈ xs, ∃ t, x = V.ref t ∧ SqT K H t ((k x).map V.int) ∧ k x ≠ []) ∧
  ∀ ys p, SrtO.Srtd (fun x y => lexL (k x) (k y)) ys → SrtO.Stb (fun x y => lexL (k x) (k y)) ys xs → H p = none → Q (.ref p) (upd H p (.lst ys))
theorem cr_sortR : CallR X (.builtin "sorted") (rSortR X.K) := by
  intro pins s σ H vs us Q I r h
  obtain ⟨a, xs, k, rfl, hs, hx, q⟩ := h
  obtain ⟨u, rfl, ru⟩ := vals1 r
  obtain rfl : u = Value.ref a := ru
  have core : ∀ (its : List Value), Vals xs its → xs.length ≤ sizeLine → (∀ {k' : Value → List Int} {Q' : Value → Shared → Prop}, (∀ v ∈ its, IsRow s.heap v (k' v) ∧ k' v ≠ []) →
      (∀ (h' : Heap) (d : Addr) (out : List Value), SrtO.Srtd (fun v u => lexL (k' v) (k' u)) out → SrtO.Stb (fun v u => lexL (k' v) (k' u)) out its → (∀ b o, s.heap.get? b = some o → h'.get? b = some o) → s.heap.objs.size ≤ d → (∃ n, h'.get? d = some (seqObj "list" out.toArray n)) → Q' (.ref d) { s with heap := h' }) →
      wpAny (model X.prog X.w) X.A (call (.builtin "sorted") [.ref a]) Q' X.xe s) → wpAny (model X.prog X.w) X.A (call (.builtin "sorted") [.ref a]) (EP X pins σ Q) X.xe s := by
    intro its rv hz go
    obtain ⟨e1, e2⟩ := refs_back rv fun x m => by
      obtain ⟨t, e, _⟩ := hx x m
      exact ⟨t, e⟩
    refine go (k' := fun u => k (backV u)) (fun v hv => ?_) fun h' d out h1 h2 kp hd hn => ?_
    · obtain ⟨t, rfl⟩ := e2 v hv
      have hm : V.ref t ∈ xs := by rw [e1]; exact List.mem_map.mpr ⟨_, hv, rfl⟩
      obtain ⟨t', e, ht, hne⟩ := hx _ hm
      cases e
      obtain ⟨its2, r2, ⟨o, ho, hc, n, hd⟩, _⟩ := I.tuple ht
      exact ⟨⟨t, o, its2.toArray, n, rfl, ho, hc, hd, by show Vals ((k (V.ref t)).map V.int) its2.toArray.toList; simpa using r2⟩, hne⟩
    · have h3 : ∀ u ∈ out, ∃ a, u = Value.ref a := fun u hu => e2 u (h2.perm.mem_iff.mp hu)
      obtain ⟨n, hn⟩ := hn
      have hb : SrtO.Stb (fun x y => lexL (k x) (k y)) (out.map backV) xs := by
        rw [e1]
        exact SrtO.Stb.map (swo_lexL k) backV h2
      refine ⟨.ref d, upd H d (.lst (out.map backV)), I.laid (t' := s.toks) kp hd ⟨?_, out, n, vals_back h3, hn⟩, rfl, q _ d (SrtO.srtd_map h1) hb (I.hok.fresh hd)⟩
      rw [hb.len]
      exact hz
  rcases hs with hs | hs
  · obtain ⟨its, rv, hl, hz⟩ := I.list hs
    exact core its rv hz fun hp h => sorted_rows hl.isList (by rw [← rv.length]; exact hz) hp h
  · obtain ⟨its, rv, hl, hz⟩ := I.tuple hs
    refine core its rv hz fun {k' Q'} hp h => sorted_ordT (swo_lexL k') hl (by rw [← rv.length]; exact hz) (fun h2 h₁ a ha kk => ?_) fun out hs hb => ?_
    · refine rows_sortableO (s := { s with heap := h₁ }) (by omega) (fun v hm => ⟨(hp v hm).1.keeps fun b o e _ => (kk b o e).2, (hp v hm).2⟩) fun o e => ?_
      have e' : some o = some (seqObj "list" its.toArray 0) := e.symm.trans ha
      cases e'
      intro c
      exact absurd (Value.type.inj c) (by decide)
    · exact h _ _ out hs hb (fun b o e => sortedAll_old e) (Nat.le_succ _) (sortedAll_at s.heap its out.toArray)
end rule
end PF

namespace PF
open PySem PySem.Spec PyProof.Rows L2
variable [Tab]
/-! ### sorted over data: rows of ints, none empty -/
def rowD (ns : List Int) : D := .tup (ns.map D.int)
def rowOf : D → Option (List Int)
  | .tup xs => match intsOf xs with
    | some (n :: ns) => some (n :: ns)
    | _ => none
  | _ => none
def rowsOf : List D → Option (List (List Int))
  | [] => some []
  | d :: ds => match rowOf d, rowsOf ds with
    | some r, some rs => some (r :: rs)
    | _, _ => none
theorem rowOf_eq {d : D} {r : List Int} (h : rowOf d = some r) : d = rowD r ∧ r ≠ [] := by
  cases d <;> simp only [rowOf] at h <;> try cases h
  split at h
  · rename_i n ns h1
    cases h
    exact ⟨by rw [rowD, ← intsOf_eq h1], by simp⟩
  · cases h
theorem rowsOf_eq : ∀ {ds : List D} {rs : List (List Int)}, rowsOf ds = some rs → ds = rs.map rowD ∧ ∀ r ∈ rs, r ≠ []
  | [], rs, h => by simp only [rowsOf] at h; cases h; exact ⟨rfl, by simp⟩
  | d :: ds, rs, h => by
    simp only [rowsOf] at h
    split at h
    · rename_i r rs' h1 h2
      cases h
      obtain ⟨e1, n1⟩ := rowOf_eq h1
      obtain ⟨e2, n2⟩ := rowsOf_eq h2
      exact ⟨by rw [e1, e2, List.map_cons], fun q hq => by
        rcases List.mem_cons.mp hq with rfl | hq
        · exact n1
        · exact n2 q hq⟩
    · cases h
def isortR : List (List Int) → List (List Int)
  | [] => []
  | x :: xs => ins x (isortR xs)
where ins (x : List Int) : List (List Int) → List (List Int)
  | [] => [x]
  | y :: ys => if lexL y x = true then y :: ins x ys else x :: y :: ys
theorem insR_perm (x : List Int) : ∀ ys : List (List Int), (isortR.ins x ys).Perm (x :: ys)
  | [] => .refl _
  | y :: ys => by
    unfold isortR.ins
    split
    · exact ((insR_perm x ys).cons y).trans (.swap x y ys)
    · exact .refl _
theorem isortR_perm : ∀ xs : List (List Int), (isortR xs).Perm xs
  | [] => .refl _
  | x :: xs => (insR_perm x _).trans ((isortR_perm xs).cons x)
abbrev SdR (l : List (List Int)) : Prop := l.Pairwise fun x y => lexL y x = false
theorem insR_sorted (x : List Int) : ∀ {ys : List (List Int)}, SdR ys → SdR (isortR.ins x ys)
  | [], _ => by unfold isortR.ins; exact List.pairwise_singleton _ _
  | y :: ys, h => by
    unfold isortR.ins
    obtain ⟨h1, h2⟩ := List.pairwise_cons.mp h
    split
    · rename_i hl
      refine List.pairwise_cons.mpr ⟨fun z hz => ?_, insR_sorted x h2⟩
      rcases List.mem_cons.mp ((insR_perm x ys).mem_iff.mp hz) with rfl | hz
      · exact lexL_asym _ _ hl
      · exact h1 z hz
    · rename_i hl
      have hl : lexL y x = false := by simpa using hl
      refine List.pairwise_cons.mpr ⟨fun z hz => ?_, h⟩
      rcases List.mem_cons.mp hz with rfl | hz
      · exact hl
      · exact lexL_tr _ _ _ hl (h1 z hz)
theorem isortR_sorted : ∀ xs : List (List Int), SdR (isortR xs)
  | [] => .nil
  | x :: xs => insR_sorted x (isortR_sorted xs)
theorem lexL_anti : ∀ xs ys, lexL xs ys = false → lexL ys xs = false → xs = ys
  | [], [], _, _ => rfl
  | [], _ :: _, h, _ => by cases h
  | _ :: _, [], _, h => by cases h
  | x :: xs, y :: ys, h1, h2 => by
    simp only [lexL] at h1 h2
    by_cases e : x = y
    · rw [if_pos e] at h1; rw [if_pos e.symm] at h2
      rw [e, lexL_anti xs ys h1 h2]
    · rw [if_neg e] at h1; rw [if_neg (fun q => e q.symm)] at h2
      simp at h1 h2; omega
theorem sdR_unique : ∀ {xs ys : List (List Int)}, xs.Perm ys → SdR xs → SdR ys → xs = ys
  | [], ys, p, _, _ => p.symm.eq_nil.symm
  | x :: xs, [], p, _, _ => p.eq_nil
  | x :: xs, y :: ys, p, hx, hy => by
    obtain ⟨hx1, hx2⟩ := List.pairwise_cons.mp hx
    obtain ⟨hy1, hy2⟩ := List.pairwise_cons.mp hy
    have e : x = y := by
      have h1 : x ∈ y :: ys := p.mem_iff.mp List.mem_cons_self
      have h2 : y ∈ x :: xs := p.mem_iff.mpr List.mem_cons_self
      rcases List.mem_cons.mp h1 with h | h
      · exact h
      · rcases List.mem_cons.mp h2 with h' | h'
        · exact h'.symm
        · exact lexL_anti _ _ (hy1 x h) (hx1 y h')
    subst e
    rw [sdR_unique (List.perm_cons x |>.mp p) hx2 hy2]
/-- things and their rows -/
def AlR (K : PySem.W.Frag) (H : Hp) : List V → List (List Int) → Prop
  | [], [] => True
  | x :: xs, r :: rs => (∃ t, x = V.ref t ∧ SqT K H t (r.map V.int) ∧ r ≠ []) ∧ AlR K H xs rs
  | _, _ => False
def rSortZ (K : PySem.W.Frag) : List V → Hp → VK → Prop := fun vs H Q => ∃ (a : Addr) (xs : List V) (rs : List (List Int)), vs = [V.ref a] ∧ (SqL K H a xs ∨ SqT K H a xs) ∧ AlR K H xs rs ∧
  ∀ (ps : List (V × List Int)) p, ps.Perm (xs.zip rs) → SdR (ps.map Prod.snd) → H p = none → Q (.ref p) (upd H p (.lst (ps.map Prod.fst)))
section rule
variable {X : Cx}
theorem sqT_uniq {pins : List (Addr × Obj)} {σ : L2.St} {H : Hp} {s : Shared} {t : Addr} {xs ys : List V} (I : Inv X pins σ H s) (h1 : SqT X.K H t xs) (h2 : SqT X.K H t ys) : xs = ys := by
  obtain ⟨i1, r1, ⟨o1, e1, c1, n1, d1⟩, _⟩ := I.tuple h1
  obtain ⟨i2, r2, ⟨o2, e2, c2, n2, d2⟩, _⟩ := I.tuple h2
  cases e1.symm.trans e2
  have := d1.symm.trans d2
  injection this with e
  have e : i1 = i2 := by simpa using e
  subst e
  exact r1.inj r2
theorem map_int_inj : ∀ {xs ys : List Int}, xs.map V.int = ys.map V.int → xs = ys
  | [], [], _ => rfl
  | [], _ :: _, h => by cases h
  | _ :: _, [], h => by cases h
  | x :: xs, y :: ys, h => by
    simp only [List.map_cons, List.cons.injEq, V.int.injEq] at h
    rw [h.1, map_int_inj h.2]
theorem zip_keys {K : PySem.W.Frag} {H : Hp} {k : V → List Int} (hk : ∀ (t : Addr) (r : List Int), SqT K H t (r.map V.int) → k (.ref t) = r) : ∀ {xs : List V} {rs : List (List Int)}, AlR K H xs rs → xs.zip rs = xs.map (fun x => (x, k x)) ∧ ∀ x ∈ xs, ∃ t, x = V.ref t ∧ SqT K H t ((k x).map V.int) ∧ k x ≠ []
  | [], [], _ => ⟨rfl, by simp⟩
  | [], _ :: _, h => h.elim
  | _ :: _, [], h => h.elim
  | x :: xs, r :: rs, h => by
    obtain ⟨⟨t, rfl, h1, h2⟩, h3⟩ := h
    obtain ⟨e, q⟩ := zip_keys hk h3
    have ek := hk t r h1
    refine ⟨by rw [List.zip_cons_cons, e, List.map_cons, ek], fun y hy => ?_⟩
    rcases List.mem_cons.mp hy with rfl | hy
    · exact ⟨t, rfl, by rw [ek]; exact h1, by rw [ek]; exact h2⟩
    · exact q y hy
open Classical in
theorem cr_sortZ : CallR X (.builtin "sorted") (rSortZ X.K) := by
  intro pins s σ H vs us Q I r h
  obtain ⟨a, xs, rs, rfl, hs, ha, q⟩ := h
  let k : V → List Int := fun x => match x with
    | .ref t => if h : ∃ ns : List Int, SqT X.K H t (ns.map V.int) then h.choose else []
    | _ => []
  have hk : ∀ (t : Addr) (r : List Int), SqT X.K H t (r.map V.int) → k (.ref t) = r := fun t r h => by
    have hx : ∃ ns : List Int, SqT X.K H t (ns.map V.int) := ⟨r, h⟩
    show (if h : ∃ ns : List Int, SqT X.K H t (ns.map V.int) then h.choose else []) = r
    rw [dif_pos hx]
    exact map_int_inj (sqT_uniq I hx.choose_spec h)
  obtain ⟨e, hx⟩ := zip_keys hk ha
  refine cr_sortR pins s σ H _ us Q I r ⟨a, xs, k, rfl, hs, hx, fun ys p h1 h2 hp => ?_⟩
  have := q (ys.map fun x => (x, k x)) p (by rw [e]; exact h2.perm.map _) (by rw [List.map_map]; exact List.pairwise_map.mpr h1) hp
  rw [List.map_map] at this
  have e2 : (ys.map (Prod.fst ∘ fun x => (x, k x))) = ys := by
    have : (Prod.fst ∘ fun x => (x, k x)) = (id : V → V) := rfl
    rw [this, List.map_id]
  rw [e2] at this
  exact this
end rule
def gSortR (mu : Bool) : GA := fun ds S => match ds with
  | [d] => match sqOf S d with
    | some xs => match rowsOf xs with
      | some rs => some (newL mu ((isortR rs).map rowD) S)
      | none => none
    | none => none
  | _ => none
section data
variable {K : PySem.W.Frag}
theorem al_of {W : Wd} {H : Hp} : ∀ {rs : List (List Int)} {ys : List V}, (∀ r ∈ rs, r ≠ []) → DRels K W H (rs.map rowD) ys → AlR K H ys rs ∧ ∀ p ∈ ys.zip rs, DRel K W H (rowD p.2) p.1
  | [], ys, _, h => by
    have := h.length
    cases ys with
    | nil => exact ⟨trivial, by simp⟩
    | cons y ys => simp at this
  | r :: rs, [], _, h => by have := h.length; simp at this
  | r :: rs, y :: ys, hn, h => by
    rw [List.map_cons] at h
    unfold DRels at h
    obtain ⟨v, vs, e, h1, h2⟩ := h
    cases e
    obtain ⟨q1, q2⟩ := al_of (fun r hr => hn r (by simp [hr])) h2
    obtain ⟨a, e, h3⟩ := tup_ints h1 (intsOf_map r)
    refine ⟨⟨⟨a, e, h3, hn r (by simp)⟩, q1⟩, fun p hp => ?_⟩
    rcases List.mem_cons.mp hp with rfl | hp
    · exact h1
    · exact q2 p hp
theorem drels_pairs {W : Wd} {H : Hp} : ∀ {ps : List (V × List Int)}, (∀ p ∈ ps, DRel K W H (rowD p.2) p.1) → DRels K W H ((ps.map Prod.snd).map rowD) (ps.map Prod.fst)
  | [], _ => .nil
  | p :: ps, h => .cons (h p (by simp)) (drels_pairs fun q hq => h q (by simp [hq]))
theorem zip_snd {K : PySem.W.Frag} {H : Hp} : ∀ {xs : List V} {rs : List (List Int)}, AlR K H xs rs → (xs.zip rs).map Prod.snd = rs
  | [], [], _ => rfl
  | [], _ :: _, h => h.elim
  | _ :: _, [], h => h.elim
  | x :: xs, r :: rs, h => by rw [List.zip_cons_cons, List.map_cons, zip_snd h.2]
theorem cd_sortR (mu : Bool) : CallD K (rSortZ K) (gSortR mu) := by
  intro W H S vs ds Q s r p
  unfold gSortR at p
  split at p
  · obtain ⟨v, rfl, h1⟩ := drels1 r
    split at p
    · rename_i xs hx
      split at p
      · rename_i rs h3
        obtain ⟨a, ys, rfl, hs, hd⟩ := sqOf_rel s h1 hx
        obtain ⟨e, hn⟩ := rowsOf_eq h3
        rw [e] at hd
        obtain ⟨q1, q2⟩ := al_of hn hd
        refine ⟨a, ys, rs, rfl, hs, q1, fun ps b hp hsd hb => ?_⟩
        have e2 : ps.map Prod.snd = isortR rs := sdR_unique (((hp.map Prod.snd).trans (by rw [zip_snd q1])).trans (isortR_perm rs).symm) hsd (isortR_sorted rs)
        refine new_list mu s ?_ p hb
        rw [← e2]
        exact drels_pairs fun z hz => q2 z (hp.mem_iff.mp hz)
      · exact p.elim
    · exact p.elim
  · exact p.elim
/-- sorted: a list of ints, or rows -/
def gSortA (mu : Bool) : GA := fun ds S => match gSorted mu ds S with
  | some r => some r
  | none => gSortR mu ds S
theorem cd_sortA (mu : Bool) : CallD K (fun vs H Q => rSortedI K vs H Q ∨ rSortZ K vs H Q) (gSortA mu) := by
  intro W H S vs ds Q s r p
  unfold gSortA at p
  cases h : gSorted mu ds S with
  | some x =>
    rw [h] at p
    exact .inl (cd_sorted mu W H S vs ds Q s r (by rw [h]; exact p))
  | none =>
    rw [h] at p
    exact .inr (cd_sortR mu W H S vs ds Q s r p)
end data
end PF

/-! A reading by values: what a def owns is told by the value itself, no store. -/
namespace VF
open PySem L2 PF
/-- values: plain data, and what is owned (lists, dicts, instances) -/
inductive M where
  | val (d : D) | lst (ms : List M) | dic (ks : List Key) (ms : List M) | ins (C : Addr) (ns : List Str) (ms : List M)
mutual
def nr : D → Bool
  | .ref _ => false
  | .tup ds => nrs ds
  | .lst ds => nrs ds
  | _ => true
def nrs : List D → Bool
  | [] => true
  | d :: ds => nr d && nrs ds
end
mutual
def Rep (S : So) : M → D → List Nat → Prop
  | .val d, e, A => e = d ∧ nr d = true ∧ A = []
  | .lst ms, e, A => ∃ n ds B, e = .ref n ∧ S[n]? = some (.lst ds) ∧ Reps S ms ds B ∧ A = n :: B
  | .dic ks ms, e, A => ∃ n ds B, e = .ref n ∧ S[n]? = some (.dic ds) ∧ ds.map (·.1) = ks ∧ Reps S ms (ds.map (·.2)) B ∧ A = n :: B
  | .ins C ns ms, e, A => ∃ n fs B, e = .ref n ∧ S[n]? = some (.ins C fs) ∧ ns.Nodup ∧ fs.map (·.1) = ns.take fs.length ∧ Reps S ms (fs.map (·.2)) B ∧ A = n :: B
def Reps (S : So) : List M → List D → List Nat → Prop
  | [], es, A => es = [] ∧ A = []
  | m :: ms, es, A => ∃ e r B1 B2, es = e :: r ∧ Rep S m e B1 ∧ Reps S ms r B2 ∧ A = B1 ++ B2
end
mutual
theorem Rep.frame {S S' : So} : ∀ {m : M} {d : D} {A : List Nat}, Rep S m d A → (∀ n ∈ A, S'[n]? = S[n]?) → Rep S' m d A
  | .val d, e, A, h, f => by unfold Rep at h ⊢; exact h
  | .lst ms, e, A, h, f => by
    unfold Rep at h ⊢
    obtain ⟨n, ds, B, h1, h2, h3, rfl⟩ := h
    exact ⟨n, ds, B, h1, by rw [f n (by simp)]; exact h2, Reps.frame h3 (fun k hk => f k (by simp [hk])), rfl⟩
  | .dic ks ms, e, A, h, f => by
    unfold Rep at h ⊢
    obtain ⟨n, ds, B, h1, h2, h3, h4, rfl⟩ := h
    exact ⟨n, ds, B, h1, by rw [f n (by simp)]; exact h2, h3, Reps.frame h4 (fun k hk => f k (by simp [hk])), rfl⟩
  | .ins C ns ms, e, A, h, f => by
    unfold Rep at h ⊢
    obtain ⟨n, ds, B, h1, h2, h3, h5, h4, rfl⟩ := h
    exact ⟨n, ds, B, h1, by rw [f n (by simp)]; exact h2, h3, h5, Reps.frame h4 (fun k hk => f k (by simp [hk])), rfl⟩
theorem Reps.frame {S S' : So} : ∀ {m : List M} {d : List D} {A : List Nat}, Reps S m d A → (∀ n ∈ A, S'[n]? = S[n]?) → Reps S' m d A
  | [], e, A, h, f => by unfold Reps at h ⊢; exact h
  | m :: ms, e, A, h, f => by
    unfold Reps at h ⊢
    obtain ⟨e, r, B1, B2, h1, h2, h3, rfl⟩ := h
    exact ⟨e, r, B1, B2, h1, Rep.frame h2 (fun k hk => f k (by simp [hk])), Reps.frame h3 (fun k hk => f k (by simp [hk])), rfl⟩
end
mutual
theorem Rep.lt {S : So} : ∀ {m : M} {d : D} {A : List Nat}, Rep S m d A → ∀ n ∈ A, n < S.length
  | .val d, e, A, h => by unfold Rep at h; obtain ⟨_, _, rfl⟩ := h; intro n hn; cases hn
  | .lst ms, e, A, h => by
    unfold Rep at h
    obtain ⟨n, ds, B, h1, h2, h3, rfl⟩ := h
    intro k hk
    rcases List.mem_cons.mp hk with rfl | hk
    · exact (List.getElem?_eq_some_iff.mp h2).1
    · exact Reps.lt h3 k hk
  | .dic ks ms, e, A, h => by
    unfold Rep at h
    obtain ⟨n, ds, B, h1, h2, h3, h4, rfl⟩ := h
    intro k hk
    rcases List.mem_cons.mp hk with rfl | hk
    · exact (List.getElem?_eq_some_iff.mp h2).1
    · exact Reps.lt h4 k hk
  | .ins C ns ms, e, A, h => by
    unfold Rep at h
    obtain ⟨n, ds, B, h1, h2, h3, h5, h4, rfl⟩ := h
    intro k hk
    rcases List.mem_cons.mp hk with rfl | hk
    · exact (List.getElem?_eq_some_iff.mp h2).1
    · exact Reps.lt h4 k hk
theorem Reps.lt {S : So} : ∀ {m : List M} {d : List D} {A : List Nat}, Reps S m d A → ∀ n ∈ A, n < S.length
  | [], e, A, h => by unfold Reps at h; obtain ⟨_, rfl⟩ := h; intro n hn; cases hn
  | m :: ms, e, A, h => by
    unfold Reps at h
    obtain ⟨e, r, B1, B2, h1, h2, h3, rfl⟩ := h
    intro k hk
    rcases List.mem_append.mp hk with hk | hk
    · exact Rep.lt h2 k hk
    · exact Reps.lt h3 k hk
end
section reps
variable {S : So}
theorem Reps.nil : Reps S [] [] [] := by unfold Reps; exact ⟨rfl, rfl⟩
theorem Reps.cons {m : M} {ms : List M} {d : D} {ds : List D} {A B : List Nat} (h : Rep S m d A) (k : Reps S ms ds B) : Reps S (m :: ms) (d :: ds) (A ++ B) := by
  unfold Reps; exact ⟨d, ds, A, B, rfl, h, k, rfl⟩
theorem Reps.length : ∀ {ms : List M} {ds : List D} {A : List Nat}, Reps S ms ds A → ms.length = ds.length
  | [], ds, A, h => by unfold Reps at h; simp [h.1]
  | m :: ms, ds, A, h => by
    unfold Reps at h
    obtain ⟨e, r, B1, B2, rfl, h2, h3, rfl⟩ := h
    simp [Reps.length h3]
theorem Reps.append : ∀ {ms ms' : List M} {ds ds' : List D} {A A' : List Nat}, Reps S ms ds A → Reps S ms' ds' A' → Reps S (ms ++ ms') (ds ++ ds') (A ++ A')
  | [], ms', ds, ds', A, A', h, k => by unfold Reps at h; obtain ⟨rfl, rfl⟩ := h; exact k
  | m :: ms, ms', ds, ds', A, A', h, k => by
    unfold Reps at h
    obtain ⟨e, r, B1, B2, rfl, h2, h3, rfl⟩ := h
    have := Reps.cons h2 (Reps.append h3 k)
    simpa using this
/-- the one at a place, and what may stand there instead -/
theorem Reps.at : ∀ {ms : List M} {ds : List D} {A : List Nat} {j : Nat} {m : M}, Reps S ms ds A → ms[j]? = some m →
    ∃ d A1 A' A2, ds[j]? = some d ∧ A = A1 ++ A' ++ A2 ∧ Rep S m d A' ∧
      ∀ (S2 : So) (m2 : M) (d2 : D) (B : List Nat), (∀ n ∈ A1 ++ A2, S2[n]? = S[n]?) → Rep S2 m2 d2 B → Reps S2 (ms.set j m2) (ds.set j d2) (A1 ++ B ++ A2)
  | [], ds, A, j, m, h, e => by simp at e
  | m0 :: ms, ds, A, 0, m, h, e => by
    unfold Reps at h
    obtain ⟨d, r, B1, B2, rfl, h2, h3, rfl⟩ := h
    simp at e; subst e
    refine ⟨d, [], B1, B2, rfl, by simp, h2, fun S2 m2 d2 B f k => ?_⟩
    simpa using Reps.cons k (h3.frame (fun n hn => f n (by simpa using hn)))
  | m0 :: ms, ds, A, j + 1, m, h, e => by
    unfold Reps at h
    obtain ⟨d0, r, B1, B2, rfl, h2, h3, rfl⟩ := h
    obtain ⟨d, A1, A', A2, g1, g2, g3, g4⟩ := Reps.at h3 (show ms[j]? = some m by simpa using e)
    subst g2
    refine ⟨d, B1 ++ A1, A', A2, by simpa using g1, by simp, g3, fun S2 m2 d2 B f k => ?_⟩
    have := Reps.cons (h2.frame (fun n hn => f n (by simp [hn]))) (g4 S2 m2 d2 B (fun n hn => f n (by simp only [List.mem_append] at hn ⊢; rcases hn with hn | hn <;> simp [hn])) k)
    simpa using this
theorem Rep.val {d : D} (h : nr d = true) : Rep S (.val d) d [] := by unfold Rep; exact ⟨rfl, h, rfl⟩
theorem nrs_get : ∀ {ds : List D} {j : Nat} {d : D}, nrs ds = true → ds[j]? = some d → nr d = true
  | [], j, d, h, e => by simp at e
  | d0 :: ds, 0, d, h, e => by simp only [nrs, Bool.and_eq_true] at h; simp at e; subst e; exact h.1
  | d0 :: ds, j + 1, d, h, e => by simp only [nrs, Bool.and_eq_true] at h; exact nrs_get h.2 (by simpa using e)
theorem nrs_mem {ds : List D} {d : D} (h : nrs ds = true) (k : d ∈ ds) : nr d = true := by
  obtain ⟨j, hj⟩ := List.getElem?_of_mem k
  exact nrs_get h hj
theorem nrs_all : ∀ {ds : List D}, (∀ d ∈ ds, nr d = true) → nrs ds = true
  | [], h => rfl
  | d :: ds, h => by simp only [nrs, Bool.and_eq_true]; exact ⟨h d (by simp), nrs_all (fun e he => h e (by simp [he]))⟩
theorem nrs_iff {ds : List D} : nrs ds = true ↔ ∀ d ∈ ds, nr d = true := ⟨fun h d k => nrs_mem h k, nrs_all⟩
theorem nrs_app {a b : List D} (h : nrs a = true) (k : nrs b = true) : nrs (a ++ b) = true := nrs_all fun d hd => (List.mem_append.mp hd).elim (nrs_mem h) (nrs_mem k)
theorem nrs_sub {a b : List D} (h : nrs a = true) (k : ∀ d ∈ b, d ∈ a) : nrs b = true := nrs_all fun d hd => nrs_mem h (k d hd)
theorem nrs_ints (ns : List Int) : nrs (ns.map D.int) = true := nrs_all fun d hd => by
  obtain ⟨n, _, rfl⟩ := List.mem_map.mp hd; rfl
theorem Reps.vals : ∀ {ds : List D}, nrs ds = true → Reps S (ds.map M.val) ds []
  | [], h => Reps.nil
  | d :: ds, h => by
    simp only [nrs, Bool.and_eq_true] at h
    exact Reps.cons (Rep.val h.1) (Reps.vals h.2)
theorem Reps.vals_of : ∀ {ds es : List D} {A : List Nat}, Reps S (ds.map M.val) es A → es = ds ∧ nrs ds = true ∧ A = []
  | [], es, A, h => by simp only [List.map_nil] at h; unfold Reps at h; exact ⟨h.1, rfl, h.2⟩
  | d :: ds, es, A, h => by
    simp only [List.map_cons] at h
    unfold Reps at h
    obtain ⟨e, r, B1, B2, rfl, h2, h3, rfl⟩ := h
    unfold Rep at h2
    obtain ⟨rfl, h4, rfl⟩ := h2
    obtain ⟨rfl, h5, rfl⟩ := Reps.vals_of h3
    exact ⟨rfl, by simp [nrs, h4, h5], rfl⟩
end reps
/-! ### no number twice -/
def Nd (A : List Nat) : Prop := ∀ a, A.count a ≤ 1
theorem Nd.le {A B : List Nat} (h : Nd A) (k : ∀ a, B.count a ≤ A.count a) : Nd B := fun a => Nat.le_trans (k a) (h a)
theorem Nd.nil : Nd [] := fun a => by simp
theorem Nd.left {A B : List Nat} (h : Nd (A ++ B)) : Nd A := h.le fun a => by rw [List.count_append]; omega
theorem Nd.right {A B : List Nat} (h : Nd (A ++ B)) : Nd B := h.le fun a => by rw [List.count_append]; omega
theorem Nd.not {A B : List Nat} {n : Nat} (h : Nd (A ++ B)) (k : n ∈ A) : n ∉ B := fun q => by
  have := h n
  rw [List.count_append] at this
  have := List.count_pos_iff.mpr k
  have := List.count_pos_iff.mpr q
  omega
theorem Nd.comm {A B : List Nat} (h : Nd (A ++ B)) : Nd (B ++ A) := h.le fun a => by simp only [List.count_append]; omega
/-- two parts without a common one -/
theorem Nd.app {A B : List Nat} (h : Nd A) (k : Nd B) (d : ∀ n ∈ A, n ∉ B) : Nd (A ++ B) := fun a => by
  rw [List.count_append]
  have h1 := h a; have h2 := k a
  by_cases c : a ∈ A
  · have := List.count_eq_zero_of_not_mem (d a c); omega
  · have := List.count_eq_zero_of_not_mem c; omega
theorem Nd.one (n : Nat) : Nd [n] := fun a => by
  rw [List.count_singleton]; split <;> omega
/-! ### environments -/
/-- names: what they own; names that look at a part of what another name (its number stands second) owns -/
structure Env where
  o : List (Option M)
  b : List (Nat × Nat × M)
def SlotR (S : So) (x : Option M) (e : Option D) (A : List Nat) : Prop := match x with
  | none => A = []
  | some m => ∃ d, e = some d ∧ Rep S m d A
def SlotsR (S : So) : List (Option M) → En → List (List Nat) → Prop
  | [], en, As => en = [] ∧ As = []
  | x :: o, en, As => ∃ e r A Ar, en = e :: r ∧ As = A :: Ar ∧ SlotR S x e A ∧ SlotsR S o r Ar
def BorR (S : So) (en : En) (As : List (List Nat)) (t : Nat × Nat × M) : Prop := ∃ d A F, en[t.1]? = some (some d) ∧ Rep S t.2.2 d A ∧ As[t.2.1]? = some F ∧ ∀ n ∈ A, n ∈ F
structure EnvR (S : So) (env : Env) (en : En) (As : List (List Nat)) : Prop where
  sl : SlotsR S env.o en As
  bo : ∀ t ∈ env.b, BorR S en As t
theorem SlotR.frame {S S' : So} {x : Option M} {e : Option D} {A : List Nat} (h : SlotR S x e A) (f : ∀ n ∈ A, S'[n]? = S[n]?) : SlotR S' x e A := by
  cases x with
  | none => exact h
  | some m => obtain ⟨d, h1, h2⟩ := h; exact ⟨d, h1, h2.frame f⟩
theorem SlotsR.frame {S S' : So} : ∀ {o : List (Option M)} {en : En} {As : List (List Nat)}, SlotsR S o en As → (∀ n ∈ As.flatten, S'[n]? = S[n]?) → SlotsR S' o en As
  | [], en, As, h, f => h
  | x :: o, en, As, h, f => by
    obtain ⟨e, r, A, Ar, rfl, rfl, h1, h2⟩ := h
    exact ⟨e, r, A, Ar, rfl, rfl, h1.frame (fun n hn => f n (by simp [hn])), SlotsR.frame h2 (fun n hn => f n (by simp only [List.flatten_cons, List.mem_append]; exact .inr hn))⟩
theorem SlotsR.lt {S : So} : ∀ {o : List (Option M)} {en : En} {As : List (List Nat)}, SlotsR S o en As → ∀ n ∈ As.flatten, n < S.length
  | [], en, As, h => by obtain ⟨_, rfl⟩ := h; intro n hn; cases hn
  | x :: o, en, As, h => by
    obtain ⟨e, r, A, Ar, rfl, rfl, h1, h2⟩ := h
    intro n hn
    rw [List.flatten_cons, List.mem_append] at hn
    rcases hn with hn | hn
    · cases x with
      | none => rw [show A = [] from h1] at hn; cases hn
      | some m => obtain ⟨d, _, h4⟩ := h1; exact h4.lt n hn
    · exact SlotsR.lt h2 n hn
theorem EnvR.frame {S S' : So} {env : Env} {en : En} {As : List (List Nat)} (h : EnvR S env en As) (f : ∀ n ∈ As.flatten, S'[n]? = S[n]?) : EnvR S' env en As :=
  ⟨h.sl.frame f, fun t ht => by
    obtain ⟨d, A, F, h1, h2, h3, h4⟩ := h.bo t ht
    refine ⟨d, A, F, h1, h2.frame (fun n hn => f n ?_), h3, h4⟩
    exact List.mem_flatten.mpr ⟨F, List.mem_of_getElem? h3, h4 n hn⟩⟩
theorem EnvR.lt {S : So} {env : Env} {en : En} {As : List (List Nat)} (h : EnvR S env en As) : ∀ n ∈ As.flatten, n < S.length := h.sl.lt
theorem get_app {S J : So} {n : Nat} (h : n < S.length) : (S ++ J)[n]? = S[n]? := List.getElem?_append_left h
theorem EnvR.more {S J : So} {env : Env} {en : En} {As : List (List Nat)} (h : EnvR S env en As) : EnvR (S ++ J) env en As := h.frame fun n hn => get_app (h.lt n hn)
theorem Rep.more {S J : So} {m : M} {d : D} {A : List Nat} (h : Rep S m d A) : Rep (S ++ J) m d A := h.frame fun n hn => get_app (h.lt n hn)
theorem Reps.more {S J : So} {m : List M} {d : List D} {A : List Nat} (h : Reps S m d A) : Reps (S ++ J) m d A := h.frame fun n hn => get_app (h.lt n hn)
theorem SlotsR.get {S : So} : ∀ {o : List (Option M)} {en : En} {As : List (List Nat)} {i : Nat} {x : Option M}, SlotsR S o en As → o[i]? = some x → ∃ e A, en[i]? = some e ∧ As[i]? = some A ∧ SlotR S x e A
  | [], en, As, i, x, h, e => by simp at e
  | y :: o, en, As, 0, x, h, e => by
    obtain ⟨e', r, A, Ar, rfl, rfl, h1, h2⟩ := h
    simp at e; subst e
    exact ⟨e', A, rfl, rfl, h1⟩
  | y :: o, en, As, i + 1, x, h, e => by
    obtain ⟨e', r, A, Ar, rfl, rfl, h1, h2⟩ := h
    simpa using SlotsR.get h2 (show o[i]? = some x by simpa using e)
theorem SlotsR.len {S : So} : ∀ {o : List (Option M)} {en : En} {As : List (List Nat)}, SlotsR S o en As → en.length = o.length ∧ As.length = o.length
  | [], en, As, h => by obtain ⟨rfl, rfl⟩ := h; exact ⟨rfl, rfl⟩
  | y :: o, en, As, h => by
    obtain ⟨e', r, A, Ar, rfl, rfl, h1, h2⟩ := h
    have := SlotsR.len h2
    simp [this.1, this.2]
theorem SlotsR.set {S : So} : ∀ {o : List (Option M)} {en : En} {As : List (List Nat)} {x : Option M} {e : Option D} {A : List Nat} (i : Nat), SlotsR S o en As → SlotR S x e A → SlotsR S (o.set i x) (en.set i e) (As.set i A)
  | [], en, As, x, e, A, i, h, k => by obtain ⟨rfl, rfl⟩ := h; exact ⟨rfl, rfl⟩
  | y :: o, en, As, x, e, A, 0, h, k => by
    obtain ⟨e', r, A', Ar, rfl, rfl, h1, h2⟩ := h
    exact ⟨e, r, A, Ar, rfl, rfl, k, h2⟩
  | y :: o, en, As, x, e, A, i + 1, h, k => by
    obtain ⟨e', r, A', Ar, rfl, rfl, h1, h2⟩ := h
    exact ⟨e', r.set i e, A', Ar.set i A, rfl, rfl, h1, SlotsR.set i h2 k⟩
/-- the same names at L1, another owned thing -/
theorem SlotsR.upd {S : So} : ∀ {o : List (Option M)} {en : En} {As : List (List Nat)} {x : Option M} {e : Option D} {A : List Nat} (i : Nat), SlotsR S o en As → en[i]? = some e → SlotR S x e A → SlotsR S (o.set i x) en (As.set i A)
  | [], en, As, x, e, A, i, h, q, k => by obtain ⟨rfl, rfl⟩ := h; exact ⟨rfl, rfl⟩
  | y :: o, en, As, x, e, A, 0, h, q, k => by
    obtain ⟨e', r, A', Ar, rfl, rfl, h1, h2⟩ := h
    simp at q; subst q
    exact ⟨e', r, A, Ar, rfl, rfl, k, h2⟩
  | y :: o, en, As, x, e, A, i + 1, h, q, k => by
    obtain ⟨e', r, A', Ar, rfl, rfl, h1, h2⟩ := h
    exact ⟨e', r, A', Ar.set i A, rfl, rfl, h1, SlotsR.upd i h2 (by simpa using q) k⟩
theorem count_set : ∀ (As : List (List Nat)) (i : Nat) (F B : List Nat) (a : Nat), As[i]? = some F → (As.set i B).flatten.count a + F.count a = As.flatten.count a + B.count a
  | [], i, F, B, a, h => by simp at h
  | A :: As, 0, F, B, a, h => by simp at h; subst h; simp [List.count_append]; omega
  | A :: As, i + 1, F, B, a, h => by
    have := count_set As i F B a (by simpa using h)
    simp only [List.set_cons_succ, List.flatten_cons, List.count_append]
    omega
theorem count_set_le (As : List (List Nat)) (i : Nat) (B : List Nat) (a : Nat) : (As.set i B).flatten.count a ≤ As.flatten.count a + B.count a := by
  cases h : As[i]? with
  | none => rw [List.set_eq_of_length_le (List.getElem?_eq_none_iff.mp h)]; omega
  | some F => have := count_set As i F B a h; omega
def Env.put (env : Env) (i : Nat) (x : Option M) : Env := ⟨env.o.set i x, env.b.filter fun t => t.1 != i && t.2.1 != i⟩
/-- what looks at a part of i is forgotten -/
def Env.kill (env : Env) (i : Nat) : Env := ⟨env.o, env.b.filter fun t => t.2.1 != i⟩
theorem EnvR.put {S : So} {env : Env} {en : En} {As : List (List Nat)} {x : Option M} {e : Option D} {A : List Nat} (i : Nat) (h : EnvR S env en As) (k : SlotR S x e A) : EnvR S (env.put i x) (en.set i e) (As.set i A) :=
  ⟨h.sl.set i k, fun t ht => by
    unfold Env.put at ht
    rw [List.mem_filter] at ht
    obtain ⟨h0, h1⟩ := ht
    simp only [Bool.and_eq_true, bne_iff_ne, ne_eq] at h1
    obtain ⟨d, A, F, g1, g2, g3, g4⟩ := h.bo t h0
    exact ⟨d, A, F, by rw [List.getElem?_set_ne (fun q => h1.1 q.symm)]; exact g1, g2, by rw [List.getElem?_set_ne (fun q => h1.2 q.symm)]; exact g3, g4⟩⟩
/-- what i owns has changed in place -/
theorem EnvR.upd {S : So} {env : Env} {en : En} {As : List (List Nat)} {x : Option M} {e : Option D} {A : List Nat} (i : Nat) (h : EnvR S env en As) (q : en[i]? = some e) (k : SlotR S x e A) : EnvR S (Env.kill ⟨env.o.set i x, env.b⟩ i) en (As.set i A) :=
  ⟨h.sl.upd i q k, fun t ht => by
    unfold Env.kill at ht
    rw [List.mem_filter] at ht
    obtain ⟨h0, h1⟩ := ht
    simp only [bne_iff_ne, ne_eq] at h1
    obtain ⟨d, A, F, g1, g2, g3, g4⟩ := h.bo t h0
    exact ⟨d, A, F, g1, g2, by rw [List.getElem?_set_ne (fun q => h1 q.symm)]; exact g3, g4⟩⟩
end VF

namespace VF
open PySem L2 PF
/-! ### results -/
inductive Rv (α : Type) where
  | ok (a : α) (e : Env) | ex (C : Addr) (e : Env) | no
def Rv.bind {α β : Type} : Rv α → (α → Env → Rv β) → Rv β
  | .ok a e, k => k a e
  | .ex C e, _ => .ex C e
  | .no, _ => .no
inductive Vl where
  | nx (e : Env) | rt (m : M) (e : Env) | bk (e : Env) | ct (e : Env) | ex (C : Addr) (e : Env) | no
abbrev VE := Env → Rv M
abbrev VT := Env → Rv Bool
abbrev VA := Env → Rv (List M)
abbrev VS := Env → Vl
/-- from S, where A is owned, to S', where A' is -/
structure Fr (S : So) (A : List Nat) (S' : So) (A' : List Nat) : Prop where
  len : S.length ≤ S'.length
  same : ∀ n, n < S.length → n ∉ A → S'[n]? = S[n]?
  new : ∀ n ∈ A', n ∈ A ∨ S.length ≤ n
theorem Fr.refl {S : So} {A : List Nat} : Fr S A S A := ⟨Nat.le_refl _, fun _ _ _ => rfl, fun _ h => .inl h⟩
theorem Fr.sub {S S' : So} {A A' B : List Nat} (h : Fr S A S' A') (k : ∀ n ∈ B, n ∈ A') : Fr S A S' B := ⟨h.len, h.same, fun n hn => h.new n (k n hn)⟩
theorem Fr.trans {S S1 S2 : So} {A A1 A2 : List Nat} (h : Fr S A S1 A1) (k : Fr S1 A1 S2 A2) : Fr S A S2 A2 :=
  ⟨Nat.le_trans h.len k.len, fun n hl hn => by
    rw [k.same n (Nat.lt_of_lt_of_le hl h.len) (fun q => (h.new n q).elim hn (by omega))]
    exact h.same n hl hn, fun n hn => (k.new n hn).elim (h.new n) (fun q => .inr (Nat.le_trans h.len q))⟩
theorem Fr.more {S J : So} {A : List Nat} : Fr S A (S ++ J) A := ⟨by simp, fun n hl _ => get_app hl, fun _ h => .inl h⟩
/-- q: nothing that stood is changed -/
def Mo (q : Bool) (S S' : So) : Prop := q = true → ∃ J, S' = S ++ J
theorem Mo.refl {q : Bool} {S : So} : Mo q S S := fun _ => ⟨[], by simp⟩
theorem Mo.trans {q1 q2 q : Bool} {S S1 S2 : So} (h : Mo q1 S S1) (k : Mo q2 S1 S2) (h1 : q = true → q1 = true) (h2 : q = true → q2 = true) : Mo q S S2 := fun z => by
  obtain ⟨J, rfl⟩ := h (h1 z)
  obtain ⟨J', rfl⟩ := k (h2 z)
  exact ⟨J ++ J', by simp⟩
theorem Mo.no {S S' : So} : Mo false S S' := fun z => by cases z
def SimAt {α β : Type} (R : So → α → β → List Nat → Prop) (p : Bool) (S : So) (env : Env) (en : En) (A : List Nat) (r : Rs β) (rv : Rv α) : Prop := match rv with
  | .ok a env' => ∃ b S' As' B, r = .ok b S' ∧ EnvR S' env' en As' ∧ R S' a b B ∧ Nd (As'.flatten ++ B) ∧ Fr S A S' (As'.flatten ++ B) ∧ (p = true → env' = env ∧ ∃ J, S' = S ++ J)
  | .ex C env' => ∃ S' As', r = .ex C S' ∧ EnvR S' env' en As' ∧ Nd As'.flatten ∧ Fr S A S' As'.flatten ∧ (p = true → env' = env ∧ ∃ J, S' = S ++ J)
  | .no => True
structure SimR {α β : Type} (R : So → α → β → List Nat → Prop) (p : Bool) (f : En → So → Rs β) (v : Env → Rv α) : Prop where
  run : ∀ (env : Env) (en : En) (S : So) (As : List (List Nat)), EnvR S env en As → Nd As.flatten → SimAt R p S env en As.flatten (f en S) (v env)
/-- the relation lives on while the rest goes on -/
def Stab {α β : Type} (R : So → α → β → List Nat → Prop) (p : Bool) : Prop := ∀ (S S' : So) (a : α) (b : β) (B : List Nat), R S a b B → (∀ n ∈ B, S'[n]? = S[n]?) → (p = true → ∃ J, S' = S ++ J) → R S' a b B
def InL {α β : Type} (R : So → α → β → List Nat → Prop) : Prop := ∀ (S : So) (a : α) (b : β) (B : List Nat), R S a b B → ∀ n ∈ B, n < S.length
theorem SimR.bind {α1 β1 α2 β2 : Type} {R1 : So → α1 → β1 → List Nat → Prop} {R2 : So → α2 → β2 → List Nat → Prop} {p1 p2 : Bool} {f : En → So → Rs β1} {v : Env → Rv α1} {k : β1 → En → So → Rs β2} {kv : α1 → Env → Rv α2}
    (h1 : SimR R1 p1 f v) (h2 : ∀ (a : α1) (b : β1) (env : Env) (en : En) (S : So) (As : List (List Nat)) (B : List Nat), EnvR S env en As → R1 S a b B → Nd (As.flatten ++ B) → SimAt R2 p2 S env en (As.flatten ++ B) (k b en S) (kv a env)) :
    SimR R2 (p1 && p2) (fun en S => (f en S).bind fun b S1 => k b en S1) (fun env => (v env).bind kv) := by
  refine ⟨fun env en S As he nd => ?_⟩
  have q := h1.run env en S As he nd
  show SimAt R2 (p1 && p2) S env en As.flatten ((f en S).bind fun b S1 => k b en S1) ((v env).bind kv)
  cases ev : v env with
  | no => exact trivial
  | ex C env' =>
    rw [ev] at q
    obtain ⟨S', As', e1, e2, e3, e4, e5⟩ := q
    rw [e1]
    exact ⟨S', As', rfl, e2, e3, e4, fun z => e5 (by simp at z; exact z.1)⟩
  | ok a env1 =>
    rw [ev] at q
    obtain ⟨b, S1, As1, B1, e1, e2, e3, e4, e5, e6⟩ := q
    rw [e1]
    have q2 := h2 a b env1 en S1 As1 B1 e2 e3 e4
    show SimAt R2 (p1 && p2) S env en As.flatten (k b en S1) (kv a env1)
    cases ev2 : kv a env1 with
    | no => exact trivial
    | ex C env' =>
      rw [ev2] at q2
      obtain ⟨S', As', g1, g2, g3, g4, g5⟩ := q2
      refine ⟨S', As', g1, g2, g3, e5.trans g4, fun z => ?_⟩
      simp only [Bool.and_eq_true] at z
      obtain ⟨rfl, J, rfl⟩ := e6 z.1
      obtain ⟨rfl, J', rfl⟩ := g5 z.2
      exact ⟨rfl, J ++ J', by simp⟩
    | ok a2 env2 =>
      rw [ev2] at q2
      obtain ⟨b2, S2, As2, B2, g1, g2, g3, g4, g5, g6⟩ := q2
      refine ⟨b2, S2, As2, B2, g1, g2, g3, g4, e5.trans g5, fun z => ?_⟩
      simp only [Bool.and_eq_true] at z
      obtain ⟨rfl, J, rfl⟩ := e6 z.1
      obtain ⟨rfl, J', rfl⟩ := g6 z.2
      exact ⟨rfl, J ++ J', by simp⟩
/-- two things, the first held meanwhile -/
def RPair {α1 β1 α2 β2 : Type} (R1 : So → α1 → β1 → List Nat → Prop) (R2 : So → α2 → β2 → List Nat → Prop) (a : α1) (b : β1) : So → α2 → β2 → List Nat → Prop := fun S a2 b2 B => ∃ B1 B2, B = B1 ++ B2 ∧ R1 S a b B1 ∧ R2 S a2 b2 B2
theorem SimR.hold {α1 β1 α2 β2 : Type} {R1 : So → α1 → β1 → List Nat → Prop} {R2 : So → α2 → β2 → List Nat → Prop} {p : Bool} {f : En → So → Rs β2} {v : Env → Rv α2} (h : SimR R2 p f v) (st : Stab R1 p) (il : InL R1)
    {a : α1} {b : β1} {env : Env} {en : En} {S : So} {As : List (List Nat)} {B : List Nat} (he : EnvR S env en As) (r : R1 S a b B) (nd : Nd (As.flatten ++ B)) :
    SimAt (RPair R1 R2 a b) p S env en (As.flatten ++ B) (f en S) (v env) := by
  have q := h.run env en S As he nd.left
  cases ev : v env with
  | no => exact trivial
  | ex C env' =>
    rw [ev] at q
    obtain ⟨S', As', e1, e2, e3, e4, e5⟩ := q
    exact ⟨S', As', e1, e2, e3, ⟨e4.len, fun n hl hn => e4.same n hl (fun z => hn (by simp [z])), fun n hn => (e4.new n hn).elim (fun z => .inl (by simp [z])) .inr⟩, e5⟩
  | ok a2 env2 =>
    rw [ev] at q
    obtain ⟨b2, S2, As2, B2, g1, g2, g3, g4, g5, g6⟩ := q
    have hB : ∀ n ∈ B, n < S.length ∧ n ∉ As.flatten := fun n hn => ⟨il S a b B r n hn, fun z => nd.not z hn⟩
    refine ⟨b2, S2, As2, B ++ B2, g1, g2, ⟨B, B2, rfl, st S S2 a b B r (fun n hn => g5.same n (hB n hn).1 (hB n hn).2) (fun z => (g6 z).2), g3⟩, ?_, ⟨g5.len, fun n hl hn => g5.same n hl (fun z => hn (by simp [z])), fun n hn => ?_⟩, g6⟩
    · have : Nd ((As2.flatten ++ B2) ++ B) := g4.app nd.right fun n hn => by
        intro z
        rcases g5.new n hn with q | q
        · exact (hB n z).2 q
        · have := (hB n z).1; omega
      exact this.le fun a => by simp only [List.count_append]; omega
    · simp only [List.mem_append] at hn
      rcases hn with hn | hn | hn
      · exact (g5.new n (by simp [hn])).elim (fun z => .inl (by simp [z])) .inr
      · exact .inl (by simp [hn])
      · exact (g5.new n (by simp [hn])).elim (fun z => .inl (by simp [z])) .inr
theorem SimAt.map {α β α2 β2 : Type} {R : So → α → β → List Nat → Prop} {R2 : So → α2 → β2 → List Nat → Prop} {p p2 : Bool} {S : So} {env : Env} {en : En} {A : List Nat} {r : Rs β} {rv : Rv α} (h : SimAt R p S env en A r rv) {k : β → So → Rs β2} {kv : α → Env → Rv α2}
    (h2 : ∀ (a : α) (b : β) (env1 : Env) (S1 : So) (As : List (List Nat)) (B : List Nat), EnvR S1 env1 en As → R S1 a b B → Nd (As.flatten ++ B) → SimAt R2 p2 S1 env1 en (As.flatten ++ B) (k b S1) (kv a env1)) :
    SimAt R2 (p && p2) S env en A (r.bind k) (rv.bind kv) := by
  cases rv with
  | no => exact trivial
  | ex C env' =>
    obtain ⟨S', As', e1, e2, e3, e4, e5⟩ := h
    rw [e1]
    exact ⟨S', As', rfl, e2, e3, e4, fun z => e5 (by simp at z; exact z.1)⟩
  | ok a env1 =>
    obtain ⟨b, S1, As1, B1, e1, e2, e3, e4, e5, e6⟩ := h
    rw [e1]
    have q2 := h2 a b env1 S1 As1 B1 e2 e3 e4
    show SimAt R2 (p && p2) S env en A (k b S1) (kv a env1)
    cases ev2 : kv a env1 with
    | no => exact trivial
    | ex C env' =>
      rw [ev2] at q2
      obtain ⟨S', As', g1, g2, g3, g4, g5⟩ := q2
      refine ⟨S', As', g1, g2, g3, e5.trans g4, fun z => ?_⟩
      simp only [Bool.and_eq_true] at z
      obtain ⟨rfl, J, rfl⟩ := e6 z.1
      obtain ⟨rfl, J', rfl⟩ := g5 z.2
      exact ⟨rfl, J ++ J', by simp⟩
    | ok a2 env2 =>
      rw [ev2] at q2
      obtain ⟨b2, S2, As2, B2, g1, g2, g3, g4, g5, g6⟩ := q2
      refine ⟨b2, S2, As2, B2, g1, g2, g3, g4, e5.trans g5, fun z => ?_⟩
      simp only [Bool.and_eq_true] at z
      obtain ⟨rfl, J, rfl⟩ := e6 z.1
      obtain ⟨rfl, J', rfl⟩ := g6 z.2
      exact ⟨rfl, J ++ J', by simp⟩
/-- a result that is at hand -/
theorem SimAt.ok {α β : Type} {R : So → α → β → List Nat → Prop} {p : Bool} {S : So} {env : Env} {en : En} {As : List (List Nat)} {A B : List Nat} {J : So} {a : α} {b : β} (he : EnvR S env en As) (nd : Nd A) (hA : ∀ n ∈ As.flatten, n ∈ A) (r : R (S ++ J) a b B)
    (hB : Nd (As.flatten ++ B)) (hn : ∀ n ∈ B, n ∈ A ∨ S.length ≤ n) : SimAt R p S env en A (.ok b (S ++ J)) (.ok a env) :=
  ⟨b, S ++ J, As, B, rfl, he.more, r, hB, ⟨by simp, fun n hl _ => get_app hl, fun n h => (List.mem_append.mp h).elim (fun z => .inl (hA n z)) (hn n)⟩, fun _ => ⟨rfl, J, rfl⟩⟩
/-! ### values read -/
/-- a thing as it is looked at -/
def VwD (S : So) (x d : D) : Prop := (d = x ∧ nr x = true) ∨ ∃ ds n, x = .lst ds ∧ d = .ref n ∧ S[n]? = some (.lst ds) ∧ nrs ds = true
def Vw (S : So) (m : M) (d : D) : Prop := match m with
  | .val x => VwD S x d
  | m => ∃ A, Rep S m d A
def RE (x : Bool) (S : So) (m : M) (d : D) (B : List Nat) : Prop := match x with
  | true => Rep S m d B
  | false => Vw S m d ∧ B = []
theorem Rep.vw {S : So} {m : M} {d : D} {A : List Nat} (h : Rep S m d A) : Vw S m d := by
  cases m with
  | val x => unfold Rep at h; exact .inl ⟨h.1, h.2.1⟩
  | _ => exact ⟨A, h⟩
theorem RE.vw {x : Bool} {S : So} {m : M} {d : D} {A : List Nat} (h : RE x S m d A) : Vw S m d := by
  cases x with
  | true => exact Rep.vw h
  | false => exact h.1
theorem VwD.more {S J : So} {x d : D} (h : VwD S x d) : VwD (S ++ J) x d := by
  rcases h with h | ⟨ds, n, h1, h2, h3, h4⟩
  · exact .inl h
  · exact .inr ⟨ds, n, h1, h2, by rw [get_app (List.getElem?_eq_some_iff.mp h3).1]; exact h3, h4⟩
theorem Vw.more {S J : So} {m : M} {d : D} (h : Vw S m d) : Vw (S ++ J) m d := by
  cases m with
  | val x => exact VwD.more h
  | _ => obtain ⟨A, h⟩ := h; exact ⟨A, h.more⟩
theorem stab_rep (p : Bool) : Stab (RE true) p := fun S S' m d B r f _ => Rep.frame r f
theorem stab_re {x p : Bool} (h : (x || p) = true) : Stab (RE x) p := by
  cases x with
  | true => exact stab_rep p
  | false =>
    simp at h; subst h
    intro S S' m d B r f k
    obtain ⟨J, rfl⟩ := k rfl
    exact ⟨Vw.more r.1, r.2⟩
theorem inl_re {x : Bool} : InL (RE x) := by
  cases x with
  | true => exact fun S m d B r => Rep.lt r
  | false => exact fun S m d B r n hn => by rw [r.2] at hn; cases hn
abbrev SimE (p x : Bool) (f : FE) (v : VE) : Prop := SimR (RE x) p f v
def RB : So → Bool → Bool → List Nat → Prop := fun _ a b B => b = a ∧ B = []
abbrev SimT (p : Bool) (f : FT) (v : VT) : Prop := SimR RB p f v
abbrev SimA (p : Bool) (f : FA) (v : VA) : Prop := SimR Reps p f v
theorem stab_rb {p : Bool} : Stab RB p := fun S S' m d B r f _ => r
theorem inl_rb : InL RB := fun S m d B r n hn => by rw [r.2] at hn; cases hn
theorem stab_reps {p : Bool} : Stab Reps p := fun S S' m d B r f _ => r.frame f
theorem inl_reps : InL Reps := fun S m d B r => r.lt
end VF

namespace VF
open PySem L2 PF
/-! ### operators by values -/
section vwd
variable {S : So} {x d : D}
theorem vwd_same (h : nr x = true) : VwD S x x := .inl ⟨rfl, h⟩
theorem ls_vw (h : VwD S x d) : lsOf S d = lsOf [] x := by
  rcases h with ⟨rfl, h⟩ | ⟨ds, n, rfl, rfl, h, _⟩
  · cases d <;> first | rfl | (simp [nr] at h)
  · simp only [lsOf, h]
theorem sq_vw (h : VwD S x d) : sqOf S d = sqOf [] x := by
  rcases h with ⟨rfl, h⟩ | ⟨ds, n, rfl, rfl, h, _⟩
  · cases d <;> first | rfl | (simp [nr] at h)
  · simp only [sqOf, lsOf, h]
theorem pd_vw (h : VwD S x d) : pdOf S d = pdOf [] x := by
  rcases h with ⟨rfl, h⟩ | ⟨ds, n, rfl, rfl, h, _⟩
  · cases d <;> first | rfl | (simp [nr] at h)
  · simp only [pdOf, h, pd0]
theorem ty_vw (h : VwD S x d) : tyN S d = tyN [] x := by
  rcases h with ⟨rfl, h⟩ | ⟨ds, n, rfl, rfl, h, _⟩
  · cases d <;> first | rfl | (simp [nr] at h)
  · simp only [tyN, h]
theorem tru_vw (h : VwD S x d) : truD S d = truD [] x := by
  rcases h with ⟨rfl, h⟩ | ⟨ds, n, rfl, rfl, h, _⟩
  · cases d <;> first | rfl | (simp [nr] at h)
  · simp only [truD, h]
theorem nr_vw (h : VwD S x d) : nr x = true := by
  rcases h with ⟨rfl, h⟩ | ⟨ds, n, rfl, rfl, _, h⟩
  · exact h
  · simpa [nr] using h
theorem ls_nrs {xs : List D} (h : VwD S x d) (k : lsOf [] x = some xs) : nrs xs = true := by
  have := nr_vw h
  cases x <;> simp [lsOf] at k
  subst k; simpa [nr] using this
theorem sq_nrs {xs : List D} (h : VwD S x d) (k : sqOf [] x = some xs) : nrs xs = true := by
  have := nr_vw h
  cases x <;> simp [sqOf, lsOf] at k <;> (subst k; simpa [nr] using this)
/-- not a list: the thing itself -/
theorem vwd_eq (h : VwD S x d) (k : ∀ ds, x ≠ .lst ds) : d = x := by
  rcases h with ⟨rfl, h⟩ | ⟨ds, n, rfl, rfl, h, _⟩
  · rfl
  · exact absurd rfl (k ds)
end vwd
/-- an operation on what is looked at: r is new or plain -/
structure OpV (g : G2) : Prop where
  run : ∀ (S : So) (x y d e r : D) (T : So), VwD S x d → VwD S y e → g x y [] = some (r, T) → g d e S = some (r, S) ∧ nr r = true
theorem opv_I (f : Int → Int → Int) : OpV (gI f) := ⟨fun S x y d e r T h k q => by
  cases x <;> cases y <;> first | (simp [gI] at q; done) | skip
  rw [vwd_eq h (by simp), vwd_eq k (by simp)]
  simp only [gI, Option.some.injEq, Prod.mk.injEq] at q ⊢
  obtain ⟨rfl, _⟩ := q
  exact ⟨⟨rfl, trivial⟩, rfl⟩⟩
theorem opv_Ic (c : Int → Int → Bool) (f : Int → Int → Int) : OpV (gIc c f) := ⟨fun S x y d e r T h k q => by
  cases x <;> cases y <;> first | (simp [gIc] at q; done) | skip
  rw [vwd_eq h (by simp), vwd_eq k (by simp)]
  simp only [gIc] at q ⊢
  split at q
  · rename_i hc
    rw [if_pos hc]
    simp only [Option.some.injEq, Prod.mk.injEq] at q ⊢
    obtain ⟨rfl, _⟩ := q
    exact ⟨⟨rfl, trivial⟩, rfl⟩
  · cases q⟩
theorem opv_B (f : Int → Int → Bool) : OpV (gB f) := ⟨fun S x y d e r T h k q => by
  cases x <;> cases y <;> first | (simp [gB] at q; done) | skip
  rw [vwd_eq h (by simp), vwd_eq k (by simp)]
  simp only [gB, Option.some.injEq, Prod.mk.injEq] at q ⊢
  obtain ⟨rfl, _⟩ := q
  exact ⟨⟨rfl, trivial⟩, rfl⟩⟩
theorem opv_sub : OpV gMinus := opv_I _
theorem opv_fdiv : OpV gFdiv := opv_Ic _ _
theorem opv_mod : OpV gMod := opv_Ic _ _
theorem opv_pow : OpV gPow := opv_Ic _ _
theorem opv_le : OpV gLe := opv_B _
theorem opv_ge : OpV gGe := opv_B _
theorem opv_gt : OpV gGt := opv_B _
theorem opv_add : OpV (gAdd false) := ⟨fun S x y d e r T h k q => by
  have nx := nr_vw h
  have ny := nr_vw k
  have lx := ls_vw h
  have ly := ls_vw k
  unfold gAdd at q
  split at q
  · rw [vwd_eq h (by simp), vwd_eq k (by simp)]
    simp only [gAdd, Option.some.injEq, Prod.mk.injEq] at q ⊢
    obtain ⟨rfl, _⟩ := q
    exact ⟨⟨rfl, trivial⟩, rfl⟩
  · rw [vwd_eq h (by simp), vwd_eq k (by simp)]
    simp only [gAdd]
    split at q
    · rename_i hc
      rw [if_pos hc]
      simp only [Option.some.injEq, Prod.mk.injEq] at q ⊢
      obtain ⟨rfl, _⟩ := q
      exact ⟨⟨rfl, trivial⟩, rfl⟩
    · cases q
  · rw [vwd_eq h (by simp), vwd_eq k (by simp)]
    simp only [gAdd]
    split at q
    · rename_i hc
      rw [if_pos hc]
      simp only [Option.some.injEq, Prod.mk.injEq] at q ⊢
      obtain ⟨rfl, _⟩ := q
      exact ⟨⟨rfl, trivial⟩, by simp only [nr] at nx ny ⊢; exact nrs_app nx ny⟩
    · cases q
  · rename_i n1 n2 n3
    split at q
    · rename_i xs ys hx hy
      split at q
      · rename_i hc
        simp only [newL_f, Option.some.injEq, Prod.mk.injEq] at q
        obtain ⟨rfl, _⟩ := q
        refine ⟨?_, by simp only [nr]; exact nrs_app (ls_nrs h hx) (ls_nrs k hy)⟩
        rw [hx] at lx; rw [hy] at ly
        have hd : d = x ∨ ∃ n, d = .ref n := by
          rcases h with ⟨rfl, _⟩ | ⟨ds, n, rfl, rfl, _, _⟩
          · exact .inl rfl
          · exact .inr ⟨n, rfl⟩
        have he : e = y ∨ ∃ n, e = .ref n := by
          rcases k with ⟨rfl, _⟩ | ⟨ds, n, rfl, rfl, _, _⟩
          · exact .inl rfl
          · exact .inr ⟨n, rfl⟩
        unfold gAdd
        split
        · simp [lsOf] at lx
        · simp [lsOf] at lx
        · simp [lsOf] at lx
        · rw [lx, ly]
          simp only [if_pos hc, newL_f]
      · cases q
    · cases q⟩
theorem opv_mul : OpV (gMul false) := ⟨fun S x y d e r T h k q => by
  have lx := ls_vw h
  unfold gMul at q
  split at q
  · rw [vwd_eq h (by simp), vwd_eq k (by simp)]
    simp only [gMul]
    split at q
    · rename_i hc
      rw [if_pos hc]
      simp only [Option.some.injEq, Prod.mk.injEq] at q ⊢
      obtain ⟨rfl, _⟩ := q
      exact ⟨⟨rfl, trivial⟩, rfl⟩
    · cases q
  · rw [vwd_eq k (by simp)]
    split at q
    · rename_i xs hx
      rw [hx] at lx
      split at q
      · rename_i hc
        simp only [newL_f, Option.some.injEq, Prod.mk.injEq] at q
        obtain ⟨rfl, _⟩ := q
        refine ⟨?_, ?_⟩
        · unfold gMul
          split
          · simp [lsOf] at lx
          · rename_i heq; cases heq
            rw [lx]
            simp only [if_pos hc, newL_f]
          · rename_i h1 h2; exact (h1 _ rfl).elim
        · simp only [nr]
          refine nrs_sub (ls_nrs h hx) fun z hz => ?_
          obtain ⟨l, h1, h2⟩ := List.mem_flatten.mp hz
          rw [List.eq_of_mem_replicate h1] at h2
          exact h2
      · cases q
    · cases q
  · cases q⟩
theorem opv_lt : OpV gLt := ⟨fun S x y d e r T h k q => by
  unfold gLt at q
  split at q
  · rw [vwd_eq h (by simp), vwd_eq k (by simp)]
    simp only [gLt, Option.some.injEq, Prod.mk.injEq] at q ⊢
    obtain ⟨rfl, _⟩ := q
    exact ⟨⟨rfl, trivial⟩, rfl⟩
  · rw [vwd_eq h (by simp), vwd_eq k (by simp)]
    simp only [gLt, Option.some.injEq, Prod.mk.injEq] at q ⊢
    obtain ⟨rfl, _⟩ := q
    exact ⟨⟨rfl, trivial⟩, rfl⟩
  · rw [vwd_eq h (by simp), vwd_eq k (by simp)]
    simp only [gLt]
    split at q
    · rename_i h1 h2
      try rw [h1, h2]
      simp only [Option.some.injEq, Prod.mk.injEq] at q ⊢
      obtain ⟨rfl, _⟩ := q
      exact ⟨⟨rfl, trivial⟩, rfl⟩
    · cases q
  · cases q⟩
theorem opv_gtA : OpV gGtA := ⟨fun S x y d e r T h k q => by
  unfold gGtA at q
  split at q
  · rw [vwd_eq h (by simp), vwd_eq k (by simp)]
    simp only [gGtA, Option.some.injEq, Prod.mk.injEq] at q ⊢
    obtain ⟨rfl, _⟩ := q
    exact ⟨⟨rfl, trivial⟩, rfl⟩
  · rw [vwd_eq h (by simp), vwd_eq k (by simp)]
    simp only [gGtA]
    split at q
    · rename_i h1 h2
      try rw [h1, h2]
      simp only [Option.some.injEq, Prod.mk.injEq] at q ⊢
      obtain ⟨rfl, _⟩ := q
      exact ⟨⟨rfl, trivial⟩, rfl⟩
    · cases q
  · cases q⟩
theorem isNon_vw {S : So} {x d : D} (h : VwD S x d) : isNon d = isNon x := by
  rcases h with ⟨rfl, h⟩ | ⟨ds, n, rfl, rfl, h, _⟩ <;> rfl
theorem opv_is : OpV gIs := ⟨fun S x y d e r T h k q => by
  unfold gIs at q
  split at q
  · rw [vwd_eq k (by simp)]
    simp only [gIs, Option.some.injEq, Prod.mk.injEq, isNon_vw h] at q ⊢
    obtain ⟨rfl, _⟩ := q
    exact ⟨⟨rfl, trivial⟩, rfl⟩
  · cases q⟩
theorem opv_isnot : OpV gIsNot := ⟨fun S x y d e r T h k q => by
  unfold gIsNot at q
  split at q
  · rw [vwd_eq k (by simp)]
    simp only [gIsNot, Option.some.injEq, Prod.mk.injEq, isNon_vw h] at q ⊢
    obtain ⟨rfl, _⟩ := q
    exact ⟨⟨rfl, trivial⟩, rfl⟩
  · cases q⟩
theorem opv_eq : OpV gEq := ⟨fun S x y d e r T h k q => by
  unfold gEq eqD at q ⊢
  rw [pd_vw h, pd_vw k]
  split at q
  · rename_i hk
    try rw [hk]
    simp only [Option.some.injEq, Prod.mk.injEq] at q ⊢
    obtain ⟨rfl, _⟩ := q
    exact ⟨⟨rfl, trivial⟩, rfl⟩
  · cases q⟩
theorem opv_ne : OpV gNe := ⟨fun S x y d e r T h k q => by
  unfold gNe eqD at q ⊢
  rw [pd_vw h, pd_vw k]
  split at q
  · rename_i hk
    try rw [hk]
    simp only [Option.some.injEq, Prod.mk.injEq] at q ⊢
    obtain ⟨rfl, _⟩ := q
    exact ⟨⟨rfl, trivial⟩, rfl⟩
  · cases q⟩
theorem fl_vw {S : So} {x d : D} {u : V} (h : VwD S x d) (k : flD x = some u) : flD d = some u := by
  rcases h with ⟨rfl, h⟩ | ⟨ds, n, rfl, rfl, h, _⟩
  · exact k
  · simp [flD] at k
theorem in_vw {S : So} {x d y e : D} {b : Bool} (h : VwD S x d) (k : VwD S y e) (q : inD [] x y = some b) : inD S d e = some b := by
  unfold inD at q ⊢
  rw [sq_vw k]
  split at q
  · rename_i h1 h2
    rw [fl_vw h h1, h2]
    exact q
  · cases q
theorem opv_in : OpV gIn := ⟨fun S x y d e r T h k q => by
  unfold gIn at q ⊢
  split at q
  · rename_i hk
    rw [in_vw h k hk]
    simp only [Option.some.injEq, Prod.mk.injEq] at q ⊢
    obtain ⟨rfl, _⟩ := q
    exact ⟨⟨rfl, trivial⟩, rfl⟩
  · cases q⟩
theorem opv_notin : OpV gNotIn := ⟨fun S x y d e r T h k q => by
  unfold gNotIn at q ⊢
  split at q
  · rename_i hk
    rw [in_vw h k hk]
    simp only [Option.some.injEq, Prod.mk.injEq] at q ⊢
    obtain ⟨rfl, _⟩ := q
    exact ⟨⟨rfl, trivial⟩, rfl⟩
  · cases q⟩
theorem nrs_atI {xs : List D} {i : Int} {d : D} (h : nrs xs = true) (k : atI xs i = some d) : nr d = true := by
  unfold L2.atI at k
  cases e : ixN xs.length i with
  | none => rw [e] at k; cases k
  | some j => rw [e] at k; exact nrs_get h k
theorem opv_ix : OpV gIx := ⟨fun S x y d e r T h k q => by
  have lx := sq_vw h
  unfold gIx at q
  split at q
  · rw [vwd_eq h (by simp), vwd_eq k (by simp)]
    simp only [gIx]
    split at q
    · rename_i hc
      rw [if_pos hc]
      split at q
      · rename_i h1
        try rw [h1]
        simp only [Option.some.injEq, Prod.mk.injEq] at q ⊢
        obtain ⟨rfl, _⟩ := q
        exact ⟨⟨rfl, trivial⟩, rfl⟩
      · cases q
    · cases q
  · rename_i hns
    rw [vwd_eq k (by simp)]
    split at q
    · rename_i xs hx
      rw [hx] at lx
      split at q
      · rename_i z hz
        simp only [Option.some.injEq, Prod.mk.injEq] at q
        obtain ⟨rfl, _⟩ := q
        refine ⟨?_, nrs_atI (sq_nrs h hx) hz⟩
        unfold gIx
        split
        · simp [sqOf, lsOf] at lx
        · rename_i heq; cases heq
          rw [lx]; simp only [hz]
        · rename_i h1 h2; exact (h1 _ rfl).elim
      · cases q
    · cases q
  · cases q⟩
/-! ### built-ins -/
def VwDs (S : So) : List D → List D → Prop
  | [], ds => ds = []
  | x :: xs, ds => ∃ d r, ds = d :: r ∧ VwD S x d ∧ VwDs S xs r
structure CallV (g : GA) : Prop where
  run : ∀ (S : So) (xs ds : List D) (r : D) (T : So), VwDs S xs ds → g xs [] = some (r, T) → g ds S = some (r, S) ∧ nr r = true
theorem vwds1 {S : So} {x : D} {ds : List D} (h : VwDs S [x] ds) : ∃ d, ds = [d] ∧ VwD S x d := by
  obtain ⟨d, r, rfl, h1, rfl⟩ := h; exact ⟨d, rfl, h1⟩
theorem vwds2 {S : So} {x y : D} {ds : List D} (h : VwDs S [x, y] ds) : ∃ d e, ds = [d, e] ∧ VwD S x d ∧ VwD S y e := by
  obtain ⟨d, r, rfl, h1, e, r2, rfl, h2, rfl⟩ := h; exact ⟨d, e, rfl, h1, h2⟩
theorem cv_len : CallV gLen := ⟨fun S xs ds r T h q => by
  unfold gLen at q
  split at q
  · obtain ⟨d, rfl, h1⟩ := vwds1 h
    rw [vwd_eq h1 (by simp)]
    simp only [gLen]
    split at q
    · rename_i hc
      rw [if_pos hc]
      simp only [Option.some.injEq, Prod.mk.injEq] at q ⊢
      obtain ⟨rfl, _⟩ := q
      exact ⟨⟨rfl, trivial⟩, rfl⟩
    · cases q
  · simp at q
  · obtain ⟨d, rfl, h1⟩ := vwds1 h
    rw [vwd_eq h1 (by simp)]
    simp only [gLen, Option.some.injEq, Prod.mk.injEq] at q ⊢
    obtain ⟨rfl, _⟩ := q
    exact ⟨⟨rfl, trivial⟩, rfl⟩
  · obtain ⟨d, rfl, h1⟩ := vwds1 h
    simp only [Option.some.injEq, Prod.mk.injEq] at q
    obtain ⟨rfl, _⟩ := q
    rcases h1 with ⟨rfl, _⟩ | ⟨ds, n, e1, rfl, h2, _⟩
    · exact ⟨rfl, rfl⟩
    · cases e1; simp only [gLen, h2]; exact ⟨trivial, rfl⟩
  · cases q⟩
theorem cv_abs : CallV gAbs := ⟨fun S xs ds r T h q => by
  unfold gAbs at q
  split at q
  · obtain ⟨d, rfl, h1⟩ := vwds1 h
    rw [vwd_eq h1 (by simp)]
    simp only [gAbs, Option.some.injEq, Prod.mk.injEq] at q ⊢
    obtain ⟨rfl, _⟩ := q
    exact ⟨⟨rfl, trivial⟩, rfl⟩
  · cases q⟩
theorem cv_int : CallV gInt := ⟨fun S xs ds r T h q => by
  unfold gInt at q
  split at q
  · obtain ⟨d, rfl, h1⟩ := vwds1 h
    rw [vwd_eq h1 (by simp)]
    simp only [gInt, Option.some.injEq, Prod.mk.injEq] at q ⊢
    obtain ⟨rfl, _⟩ := q
    exact ⟨⟨rfl, trivial⟩, rfl⟩
  · obtain ⟨d, rfl, h1⟩ := vwds1 h
    rw [vwd_eq h1 (by simp)]
    simp only [gInt, Option.some.injEq, Prod.mk.injEq] at q ⊢
    obtain ⟨rfl, _⟩ := q
    exact ⟨⟨rfl, trivial⟩, rfl⟩
  · cases q⟩
theorem cv_str : CallV gStr := ⟨fun S xs ds r T h q => by
  unfold gStr at q
  split at q
  · obtain ⟨d, rfl, h1⟩ := vwds1 h
    rw [vwd_eq h1 (by simp)]
    simp only [gStr]
    split at q
    · rename_i hc
      rw [if_pos hc]
      simp only [Option.some.injEq, Prod.mk.injEq] at q ⊢
      obtain ⟨rfl, _⟩ := q
      exact ⟨⟨rfl, trivial⟩, rfl⟩
    · cases q
  · cases q⟩
/-- a built-in that reads one list of ints -/
theorem cv_ints1 {g : GA} (f : List Int → Option D) (hf : ∀ ns r, f ns = some r → nr r = true) (h1 : ∀ S d, lsOf S d ≠ none → g [d] S = match lsOf S d with
    | some xs => match intsOf xs with
      | some ns => (f ns).map fun r => (r, S)
      | none => none
    | none => none) {S : So} {x d r : D} {T : So} (h : VwD S x d) (hx : lsOf [] x ≠ none) (q : g [x] [] = some (r, T)) : g [d] S = some (r, S) ∧ nr r = true := by
  have lx := ls_vw h
  rw [h1 [] x hx] at q
  rw [h1 S d (by rw [lx]; exact hx), lx]
  split at q
  · rename_i xs e1
    try rw [e1]
    try simp only
    split at q
    · rename_i ns e2
      try rw [e2]
      try simp only
      cases e3 : f ns with
      | none => rw [e3] at q; cases q
      | some r' =>
        rw [e3] at q
        simp only [Option.map_some, Option.some.injEq, Prod.mk.injEq] at q ⊢
        obtain ⟨rfl, _⟩ := q
        exact ⟨⟨rfl, trivial⟩, hf ns _ e3⟩
    · cases q
  · cases q
end VF

namespace VF
open PySem L2 PF
/-! ### more built-ins -/
theorem cv_min : CallV gMin := ⟨fun S xs ds r T h q => by
  unfold gMin at q
  split at q
  · obtain ⟨d, e, rfl, h1, h2⟩ := vwds2 h
    rw [vwd_eq h1 (by simp), vwd_eq h2 (by simp)]
    simp only [gMin, Option.some.injEq, Prod.mk.injEq] at q ⊢
    obtain ⟨rfl, _⟩ := q
    exact ⟨⟨rfl, trivial⟩, rfl⟩
  · obtain ⟨d, rfl, h1⟩ := vwds1 h
    unfold gMin
    simp only [ls_vw h1]
    split at q
    · split at q
      · split at q
        · cases q
        · rename_i hc
          simp only [if_neg hc, Option.some.injEq, Prod.mk.injEq] at q ⊢
          obtain ⟨rfl, _⟩ := q
          exact ⟨⟨rfl, trivial⟩, rfl⟩
      · cases q
    · cases q
  · cases q⟩
theorem cv_max : CallV gMax := ⟨fun S xs ds r T h q => by
  unfold gMax at q
  split at q
  · obtain ⟨d, e, rfl, h1, h2⟩ := vwds2 h
    rw [vwd_eq h1 (by simp), vwd_eq h2 (by simp)]
    simp only [gMax, Option.some.injEq, Prod.mk.injEq] at q ⊢
    obtain ⟨rfl, _⟩ := q
    exact ⟨⟨rfl, trivial⟩, rfl⟩
  · obtain ⟨d, rfl, h1⟩ := vwds1 h
    unfold gMax
    simp only [ls_vw h1]
    split at q
    · split at q
      · split at q
        · cases q
        · rename_i hc
          simp only [if_neg hc, Option.some.injEq, Prod.mk.injEq] at q ⊢
          obtain ⟨rfl, _⟩ := q
          exact ⟨⟨rfl, trivial⟩, rfl⟩
      · cases q
    · cases q
  · cases q⟩
theorem cv_sum : CallV gSum := ⟨fun S xs ds r T h q => by
  unfold gSum at q
  split at q
  · obtain ⟨d, rfl, h1⟩ := vwds1 h
    unfold gSum
    simp only [ls_vw h1]
    split at q
    · split at q
      · simp only [Option.some.injEq, Prod.mk.injEq] at q ⊢
        obtain ⟨rfl, _⟩ := q
        exact ⟨⟨rfl, trivial⟩, rfl⟩
      · cases q
    · cases q
  · cases q⟩
theorem cv_sorted : CallV (gSorted false) := ⟨fun S xs ds r T h q => by
  unfold gSorted at q
  split at q
  · obtain ⟨d, rfl, h1⟩ := vwds1 h
    unfold gSorted
    simp only [ls_vw h1]
    split at q
    · split at q
      · simp only [newL_f, Option.some.injEq, Prod.mk.injEq] at q ⊢
        obtain ⟨rfl, _⟩ := q
        exact ⟨⟨rfl, trivial⟩, by simp only [nr]; exact nrs_ints _⟩
      · cases q
    · cases q
  · cases q⟩
theorem cv_list : CallV (gList false) := ⟨fun S xs ds r T h q => by
  unfold gList at q
  split at q
  · obtain ⟨d, rfl, h1⟩ := vwds1 h
    unfold gList
    simp only [sq_vw h1]
    split at q
    · rename_i hx
      simp only [newL_f, Option.some.injEq, Prod.mk.injEq] at q ⊢
      obtain ⟨rfl, _⟩ := q
      exact ⟨⟨rfl, trivial⟩, by simp only [nr]; exact sq_nrs h1 hx⟩
    · cases q
  · cases q⟩
theorem cv_tuple : CallV gTuple := ⟨fun S xs ds r T h q => by
  unfold gTuple at q
  split at q
  · obtain ⟨d, rfl, h1⟩ := vwds1 h
    unfold gTuple
    simp only [sq_vw h1]
    split at q
    · rename_i hx
      simp only [Option.some.injEq, Prod.mk.injEq] at q ⊢
      obtain ⟨rfl, _⟩ := q
      exact ⟨⟨rfl, trivial⟩, by simp only [nr]; exact sq_nrs h1 hx⟩
    · cases q
  · cases q⟩
/-! ### expressions -/
def ofM (o : Option M) (e : Env) : Rv M := match o with
  | some m => .ok m e
  | none => .no
/-- all plain -/
def valsM : List M → Option (List D)
  | [] => some []
  | .val d :: r => match valsM r with
    | some ds => some (d :: ds)
    | none => none
  | _ :: _ => none
/-- as it is looked at -/
def lookM : M → Option M
  | .val d => some (.val d)
  | .lst ms => match valsM ms with
    | some ds => some (.val (.lst ds))
    | none => none
  | _ => none
theorem valsM_eq : ∀ {ms : List M} {ds : List D}, valsM ms = some ds → ms = ds.map M.val
  | [], ds, h => by simp only [valsM] at h; cases h; rfl
  | .val d :: r, ds, h => by
    simp only [valsM] at h
    split at h
    · rename_i e1
      cases h
      rw [valsM_eq e1]; rfl
    · cases h
  | .lst _ :: r, ds, h => by simp [valsM] at h
  | .dic _ _ :: r, ds, h => by simp [valsM] at h
  | .ins _ _ _ :: r, ds, h => by simp [valsM] at h
theorem valsM_map : ∀ (ds : List D), valsM (ds.map M.val) = some ds
  | [] => rfl
  | d :: ds => by simp only [List.map_cons, valsM, valsM_map ds]
theorem look_vw {S : So} {m x : M} {d : D} {A : List Nat} (h : Rep S m d A) (k : lookM m = some x) : Vw S x d := by
  cases m with
  | val y => simp only [lookM] at k; cases k; exact h.vw
  | lst ms =>
    simp only [lookM] at k
    split at k
    · rename_i ds e
      cases k
      rw [valsM_eq e] at h
      unfold Rep at h
      obtain ⟨n, es, B, h1, h2, h3, rfl⟩ := h
      obtain ⟨e1, h4, e2⟩ := Reps.vals_of h3
      subst e1
      exact .inr ⟨_, n, rfl, h1, h2, h4⟩
    · cases k
  | dic _ _ => simp [lookM] at k
  | ins _ _ _ => simp [lookM] at k
def getO (o : Option (Option M)) (k : M → Rv M) : Rv M := match o with
  | some (some m) => k m
  | _ => .no
/-- a name that holds plain data -/
def isV (m : M) (env : Env) : Rv M := match m with
  | .val d => .ok (.val d) env
  | _ => .no
def vVar (i : Nat) : VE := fun env => getO env.o[i]? fun m => isV m env
/-- a name, looked at -/
def vLk (i : Nat) : VE := fun env => getO env.o[i]? fun m => ofM (lookM m) env
/-- a name that hands over what it owns -/
def vMv (i : Nat) : VE := fun env => getO env.o[i]? fun m => .ok m (Env.kill ⟨env.o.set i none, env.b⟩ i)
/-- a name that looks at a part of another -/
def vLb (i : Nat) : VE := fun env => match env.b.find? (fun t => t.1 == i) with
  | some t => ofM (lookM t.2.2) env
  | none => .no
def vC (d : D) : VE := fun env => .ok (.val d) env
section vars
theorem at_var {S : So} {env : Env} {en : En} {As : List (List Nat)} {i : Nat} {m : M} (he : EnvR S env en As) (h : env.o[i]? = some (some m)) : ∃ d A, en[i]? = some (some d) ∧ As[i]? = some A ∧ Rep S m d A := by
  obtain ⟨e, A, h1, h2, h3⟩ := he.sl.get h
  obtain ⟨d, rfl, h4⟩ := h3
  exact ⟨d, A, h1, h2, h4⟩
theorem getO_ok {o : Option (Option M)} {k : M → Rv M} {m : M} {e : Env} (h : getO o k = .ok m e) : ∃ x, o = some (some x) ∧ k x = .ok m e := by
  unfold getO at h
  split at h
  · exact ⟨_, rfl, h⟩
  · cases h
theorem se_var (i : Nat) : SimE true true (fVar i) (vVar i) := ⟨fun env en S As he nd => by
  unfold vVar getO
  split
  · rename_i m h
    obtain ⟨d, A, h1, h2, h3⟩ := at_var he h
    show SimAt _ _ _ _ _ _ _ (isV m env)
    unfold isV
    split
    · rename_i x
      have h3' := h3
      unfold Rep at h3
      obtain ⟨rfl, h4, rfl⟩ := h3
      have : fVar i en S = .ok d (S ++ []) := by simp [fVar, h1]
      rw [this]
      exact SimAt.ok (B := []) he nd (fun _ h => h) (show Rep (S ++ []) _ _ _ from Rep.val h4) (by simpa using nd) (by simp)
    · exact trivial
  · exact trivial⟩
theorem se_lk (i : Nat) : SimE true false (fVar i) (vLk i) := ⟨fun env en S As he nd => by
  unfold vLk getO
  split
  · rename_i m h
    obtain ⟨d, A, h1, h2, h3⟩ := at_var he h
    show SimAt _ _ _ _ _ _ _ (ofM (lookM m) env)
    unfold ofM
    split
    · rename_i x hx
      have : fVar i en S = .ok d (S ++ []) := by simp [fVar, h1]
      rw [this]
      exact SimAt.ok (B := []) he nd (fun _ h => h) ⟨by simpa using look_vw h3 hx, rfl⟩ (by simpa using nd) (by simp)
    · exact trivial
  · exact trivial⟩
theorem se_lb (i : Nat) : SimE true false (fVar i) (vLb i) := ⟨fun env en S As he nd => by
  unfold vLb
  split
  · rename_i t h
    have hm := List.mem_of_find?_eq_some h
    have hi : t.1 = i := by simpa using List.find?_some h
    obtain ⟨d, A, F, h1, h2, h3, h4⟩ := he.bo t hm
    rw [hi] at h1
    unfold ofM
    split
    · rename_i x hx
      have : fVar i en S = .ok d (S ++ []) := by simp [fVar, h1]
      rw [this]
      exact SimAt.ok (B := []) he nd (fun _ h => h) ⟨by simpa using look_vw h2 hx, rfl⟩ (by simpa using nd) (by simp)
    · exact trivial
  · exact trivial⟩
theorem mem_set_flat {As : List (List Nat)} {i : Nat} {B : List Nat} {n : Nat} (h : n ∈ (As.set i B).flatten) : n ∈ As.flatten ∨ n ∈ B := by
  obtain ⟨l, h1, h2⟩ := List.mem_flatten.mp h
  rcases List.mem_or_eq_of_mem_set h1 with h1 | rfl
  · exact .inl (List.mem_flatten.mpr ⟨l, h1, h2⟩)
  · exact .inr h2
theorem se_mv (i : Nat) : SimE false true (fVar i) (vMv i) := ⟨fun env en S As he nd => by
  unfold vMv getO
  split
  · rename_i m h
    obtain ⟨d, A, h1, h2, h3⟩ := at_var he h
    have hf : fVar i en S = .ok d S := by simp [fVar, h1]
    refine ⟨d, S, As.set i [], A, hf, he.upd i h1 (show SlotR S none (some d) [] from rfl), h3, ?_, ⟨Nat.le_refl _, fun _ _ _ => rfl, fun n hn => ?_⟩, fun z => by cases z⟩
    · exact nd.le fun a => by
        have := count_set As i A [] a h2
        simp only [List.count_append, List.count_nil] at this ⊢
        omega
    · rcases List.mem_append.mp hn with hn | hn
      · exact (mem_set_flat hn).elim .inl (by intro z; cases z)
      · exact .inl (List.mem_flatten.mpr ⟨A, List.mem_of_getElem? h2, hn⟩)
  · exact trivial⟩
theorem se_c {d : D} (h : nr d = true := by rfl) : SimE true true (fC d) (vC d) := ⟨fun env en S As he nd => by
  have : fC d en S = .ok d (S ++ []) := by simp [fC]
  rw [this]
  exact SimAt.ok (B := []) he nd (fun _ h => h) (show Rep (S ++ []) _ _ _ from Rep.val h) (by simpa using nd) (by simp)⟩
end vars
/-- what is held exactly may be looked at -/
theorem SimR.weak {p : Bool} {f : FE} {v : VE} (h : SimE p true f v) : SimE p false f v := ⟨fun env en S As he nd => by
  have q := h.run env en S As he nd
  cases e : v env with
  | no => exact trivial
  | ex C e1 => rw [e] at q; exact q
  | ok m e1 =>
    rw [e] at q
    obtain ⟨b, S1, As1, B, h1, h2, h3, h4, h5, h6⟩ := q
    exact ⟨b, S1, As1, [], h1, h2, ⟨Rep.vw h3, rfl⟩, by simpa using h4.left, h5.sub (fun n hn => by simp at hn ⊢; exact .inl hn), h6⟩⟩
/-- less is known of what goes on -/
theorem SimR.imp {α β : Type} {R : So → α → β → List Nat → Prop} {p : Bool} {f : En → So → Rs β} {v : Env → Rv α} (h : SimR R p f v) : SimR R false f v := ⟨fun env en S As he nd => by
  have q := h.run env en S As he nd
  cases e : v env with
  | no => exact trivial
  | ex C e1 =>
    rw [e] at q
    obtain ⟨S1, As1, h1, h2, h3, h4, h5⟩ := q
    exact ⟨S1, As1, h1, h2, h3, h4, fun z => by cases z⟩
  | ok m e1 =>
    rw [e] at q
    obtain ⟨b, S1, As1, B, h1, h2, h3, h4, h5, h6⟩ := q
    exact ⟨b, S1, As1, B, h1, h2, h3, h4, h5, fun z => by cases z⟩⟩
theorem ok_drop {R : So → M → D → List Nat → Prop} {p : Bool} {S : So} {env : Env} {en : En} {As : List (List Nat)} {B : List Nat} {a : M} {b : D} (he : EnvR S env en As) (nd : Nd (As.flatten ++ B)) (r : R S a b []) : SimAt R p S env en (As.flatten ++ B) (.ok b S) (.ok a env) := by
  have := SimAt.ok (R := R) (p := p) (J := []) (en := en) (B := []) he nd (fun n hn => by simp [hn]) (by simpa using r) (by simpa using nd.left) (by simp)
  rw [List.append_nil] at this
  exact this
/-- what is looked at and is no list is the thing itself -/
def vEx (v : VE) : VE := fun env => (v env).bind fun m e => match m with
  | .val (.lst _) => .no
  | .val d => .ok (.val d) e
  | _ => .no
theorem re_val {x : Bool} {S : So} {y : D} {d : D} {B : List Nat} (h : RE x S (.val y) d B) : VwD S y d := h.vw
theorem re_ex {x : Bool} {p : Bool} {f : FE} {v : VE} (h : SimE p x f v) : SimE p true f (vEx v) := by
  have : SimE (p && true) true (fun en S => (f en S).bind fun d S1 => .ok d S1) (vEx v) := SimR.bind h fun a b env en S As B he r nd => by
    split
    · exact trivial
    · rename_i d hne
      have hv := re_val r
      have : b = d := vwd_eq hv (fun ds z => hne ds (by rw [z]))
      subst this
      exact ok_drop he nd (show Rep S _ _ _ from Rep.val (nr_vw hv))
    · exact trivial
  rw [Bool.and_true] at this
  have e : (fun en S => (f en S).bind fun d S1 => Rs.ok d S1) = f := by
    funext en S; cases f en S <;> rfl
  rw [e] at this
  exact this
def liftG (g : G2) (a b : M) : Option M := match a, b with
  | .val x, .val y => (g x y []).map fun r => .val r.1
  | _, _ => none
def vOp (g : G2) (va vb : VE) : VE := fun env => (va env).bind fun a e1 => (vb e1).bind fun b e2 => ofM (liftG g a b) e2
section ops
variable {p pa pb pc x xa xb xc : Bool} {fa fb fc : FE} {va vb vc : VE} {ga gb : FT} {ta tb : VT}
theorem bind2 {g : G2} (ha : SimE pa xa fa va) (hb : SimE pb xb fb vb) (hx : (xa || pb) = true) {R2 : So → M → D → List Nat → Prop} {kv : M → M → Option M}
    (h : ∀ (S : So) (a b m : M) (d e : D), Vw S a d → Vw S b e → kv a b = some m → ∃ r, g d e S = some (r, S) ∧ R2 S m r []) :
    SimR R2 (pa && pb) (fOp g fa fb) (fun env => (va env).bind fun a e1 => (vb e1).bind fun b e2 => ofM (kv a b) e2) := by
  have := SimR.bind (R2 := R2) (p2 := pb) (k := fun d en S => (fb en S).bind fun e S2 => ofO (g d e S2)) (kv := fun a e1 => (vb e1).bind fun b e2 => ofM (kv a b) e2) ha fun a d env en S As B he r nd => by
    have q := SimAt.map (p2 := true) (R2 := R2) (SimR.hold hb (stab_re hx) inl_re he r nd) (k := fun e S2 => ofO (g d e S2)) (kv := fun b e2 => ofM (kv a b) e2) fun b e env1 S1 As1 B1 he1 r1 nd1 => by
      obtain ⟨B2, B3, rfl, r2, r3⟩ := r1
      cases hk : kv a b with
      | none => exact trivial
      | some m =>
        obtain ⟨r, e1, e2⟩ := h S1 a b m d e r2.vw r3.vw hk
        rw [e1]
        exact ok_drop he1 nd1 e2
    rw [Bool.and_true] at q
    exact q
  exact this
theorem se_op {g : G2} (hg : OpV g) (ha : SimE pa xa fa va) (hb : SimE pb xb fb vb) (hx : (xa || pb) = true := by rfl) : SimE (pa && pb) true (fOp g fa fb) (vOp g va vb) :=
  bind2 ha hb hx fun S a b m d e r1 r2 hk => by
    unfold liftG at hk
    split at hk
    · rename_i x y
      cases hq : g x y [] with
      | none => rw [hq] at hk; cases hk
      | some r =>
        rw [hq] at hk
        obtain ⟨r, T⟩ := r
        simp only [Option.map_some, Option.some.injEq] at hk
        subst hk
        obtain ⟨h1, h2⟩ := hg.run S x y d e r T r1 r2 hq
        exact ⟨r, h1, show Rep S _ _ _ from Rep.val h2⟩
    · cases hk
/-- a new list that is owned -/
def ownM : M → Option M
  | .val (.lst ds) => some (.lst (ds.map M.val))
  | _ => none
def vOwn (v : VE) : VE := fun env => (v env).bind fun m e => ofM (ownM m) e
/-- the same with the new list in the store -/
structure OwnOp (g gm : G2) : Prop where
  run : ∀ (S : So) (d e : D) (ds : List D), g d e S = some (.lst ds, S) → gm d e S = some (.ref S.length, S ++ [.lst ds])
theorem new_at {env : Env} {en : En} {S : So} {As : List (List Nat)} {B : List Nat} {ds : List D} {ms : List M} {A : List Nat} (he : EnvR S env en As) (r : Reps S ms ds A) (nd : Nd (As.flatten ++ B)) (nd2 : Nd (As.flatten ++ A)) (hA : ∀ n ∈ A, n ∈ As.flatten ++ B ∨ S.length ≤ n) :
    SimAt (RE true) p S env en (As.flatten ++ B) (.ok (.ref S.length) (S ++ [O.lst ds])) (.ok (.lst ms) env) := by
  refine SimAt.ok (B := S.length :: A) he nd (fun n hn => by simp [hn]) ?_ ?_ ?_
  · show Rep _ _ _ _
    unfold Rep
    exact ⟨S.length, ds, A, rfl, by simp, r.more, rfl⟩
  · have : Nd ((As.flatten ++ A) ++ [S.length]) := nd2.app (Nd.one _) fun n hn z => by
      simp at z
      subst z
      rcases List.mem_append.mp hn with hn | hn
      · exact Nat.lt_irrefl _ (he.lt _ hn)
      · exact Nat.lt_irrefl _ (r.lt _ hn)
    exact this.le fun a => by simp only [List.count_append, List.count_cons, List.count_nil]; omega
  · intro n hn
    rcases List.mem_cons.mp hn with rfl | hn
    · exact .inr (Nat.le_refl _)
    · exact hA n hn
theorem se_opN {g gm : G2} (hg : OpV g) (hm : OwnOp g gm) (ha : SimE pa xa fa va) (hb : SimE pb xb fb vb) (hx : (xa || pb) = true := by rfl) : SimE (pa && pb) true (fOp gm fa fb) (vOwn (vOp g va vb)) := by
  have := SimR.bind (R2 := RE true) (p2 := pb) (k := fun d en S => (fb en S).bind fun e S2 => ofO (gm d e S2)) (kv := fun a e1 => (vb e1).bind fun b e2 => ofM ((liftG g a b).bind ownM) e2) ha fun a d env en S As B he r nd => by
    have q := SimAt.map (p2 := true) (R2 := RE true) (SimR.hold hb (stab_re hx) inl_re he r nd) (k := fun e S2 => ofO (gm d e S2)) (kv := fun b e2 => ofM ((liftG g a b).bind ownM) e2) fun b e env1 S1 As1 B1 he1 r1 nd1 => by
      obtain ⟨B2, B3, rfl, r2, r3⟩ := r1
      cases hk : (liftG g a b).bind ownM with
      | none => exact trivial
      | some m =>
        have r2 := r2.vw; have r3 := r3.vw
        unfold liftG at hk
        split at hk
        · rename_i x y _ _
          cases hq : g x y [] with
          | none => rw [hq] at hk; cases hk
          | some rr =>
            rw [hq] at hk
            obtain ⟨rr, T⟩ := rr
            simp only [Option.map_some, Option.bind_some] at hk
            unfold ownM at hk
            split at hk
            · rename_i ds heq
              cases heq; cases hk
              obtain ⟨h1, h2⟩ := hg.run S1 x y d e _ T r2 r3 hq
              rw [hm.run S1 d e ds h1]
              exact new_at he1 (Reps.vals (by simpa [nr] using h2)) nd1 (by simpa using nd1.left) (by simp)
            · cases hk
        · cases hk
    rw [Bool.and_true] at q
    exact q
  have e : (vOwn (vOp g va vb)) = (fun env => (va env).bind fun a e1 => (vb e1).bind fun b e2 => ofM ((liftG g a b).bind ownM) e2) := by
    funext env
    simp only [vOwn, vOp]
    cases va env with
    | ok a e1 =>
      simp only [Rv.bind]
      cases vb e1 with
      | ok b e2 => simp only [Rv.bind]; cases liftG g a b <;> rfl
      | ex => rfl
      | no => rfl
    | ex => rfl
    | no => rfl
  rw [e]
  exact this
theorem own_add : OwnOp (gAdd false) (gAdd true) := ⟨fun S d e ds h => by
  unfold gAdd at h ⊢
  split at h
  · cases h
  · split at h <;> cases h
  · split at h <;> cases h
  · split at h
    · split at h
      · rename_i hc
        rw [if_pos hc]
        simp only [newL_f, Option.some.injEq, Prod.mk.injEq, D.lst.injEq] at h
        rw [← h.1]; rfl
      · cases h
    · cases h⟩
theorem own_mul : OwnOp (gMul false) (gMul true) := ⟨fun S d e ds h => by
  unfold gMul at h ⊢
  split at h
  · split at h <;> cases h
  · split at h
    · split at h
      · rename_i hc
        rw [if_pos hc]
        simp only [newL_f, Option.some.injEq, Prod.mk.injEq, D.lst.injEq] at h
        rw [← h.1]; rfl
      · cases h
    · cases h
  · cases h⟩
end ops
end VF

namespace VF
open PySem L2 PF
variable [Tab]
theorem lim_le {n : Nat} (h : n ≤ 1000000) : n ≤ sizeLine := by unfold sizeLine; omega
theorem lim_lt {n : Nat} (h : n < 1000000) : n < sizeLine := by unfold sizeLine; omega
section gen
variable {α β : Type} {R : So → α → β → List Nat → Prop} {p q : Bool}
theorem SimAt.imp {S : So} {env : Env} {en : En} {A : List Nat} {r : Rs β} {rv : Rv α} (h : SimAt R p S env en A r rv) (k : q = true → p = true) : SimAt R q S env en A r rv := by
  cases rv with
  | no => exact trivial
  | ex C e =>
    obtain ⟨S', As', e1, e2, e3, e4, e5⟩ := h
    exact ⟨S', As', e1, e2, e3, e4, fun z => e5 (k z)⟩
  | ok a e =>
    obtain ⟨b, S', As', B, e1, e2, e3, e4, e5, e6⟩ := h
    exact ⟨b, S', As', B, e1, e2, e3, e4, e5, fun z => e6 (k z)⟩
/-- more stood there before -/
theorem SimAt.wide {S : So} {env : Env} {en : En} {A A' : List Nat} {r : Rs β} {rv : Rv α} (h : SimAt R p S env en A r rv) (k : ∀ n ∈ A, n ∈ A') : SimAt R p S env en A' r rv := by
  cases rv with
  | no => exact trivial
  | ex C e =>
    obtain ⟨S', As', e1, e2, e3, e4, e5⟩ := h
    exact ⟨S', As', e1, e2, e3, ⟨e4.len, fun n hl hn => e4.same n hl (fun z => hn (k n z)), fun n hn => (e4.new n hn).elim (fun z => .inl (k n z)) .inr⟩, e5⟩
  | ok a e =>
    obtain ⟨b, S', As', B, e1, e2, e3, e4, e5, e6⟩ := h
    exact ⟨b, S', As', B, e1, e2, e3, e4, ⟨e5.len, fun n hl hn => e5.same n hl (fun z => hn (k n z)), fun n hn => (e5.new n hn).elim (fun z => .inl (k n z)) .inr⟩, e6⟩
theorem SimR.at {f : En → So → Rs β} {v : Env → Rv α} (h : SimR R p f v) {env : Env} {en : En} {S : So} {As : List (List Nat)} {B : List Nat} (he : EnvR S env en As) (nd : Nd (As.flatten ++ B)) (k : q = true → p = true) : SimAt R q S env en (As.flatten ++ B) (f en S) (v env) :=
  ((h.run env en S As he nd.left).imp k).wide fun n hn => by simp [hn]
theorem ok_dropG {S : So} {env : Env} {en : En} {As : List (List Nat)} {B : List Nat} {a : α} {b : β} (he : EnvR S env en As) (nd : Nd (As.flatten ++ B)) (r : R S a b []) : SimAt R p S env en (As.flatten ++ B) (.ok b S) (.ok a env) := by
  have := SimAt.ok (R := R) (p := p) (J := []) (en := en) (B := []) he nd (fun n hn => by simp [hn]) (by simpa using r) (by simpa using nd.left) (by simp)
  rw [List.append_nil] at this
  exact this
/-- one way or the other -/
theorem SimR.ite {pc p1 p2 : Bool} {fc : FT} {vc : VT} {f1 f2 : En → So → Rs β} {v1 v2 : Env → Rv α} (hc : SimT pc fc vc) (h1 : SimR R p1 f1 v1) (h2 : SimR R p2 f2 v2) :
    SimR R (pc && (p1 && p2)) (fun en S => (fc en S).bind fun k S1 => if k = true then f1 en S1 else f2 en S1) (fun env => (vc env).bind fun k e => if k = true then v1 e else v2 e) :=
  SimR.bind hc fun a b env en S As B he r nd => by
    obtain ⟨rfl, rfl⟩ := r
    cases b with
    | true => exact h1.at he nd (fun z => by simp at z; exact z.1)
    | false => exact h2.at he nd (fun z => by simp at z; exact z.2)
end gen
section cases
variable {α β : Type} {R : So → α → β → List Nat → Prop} {p : Bool} {S : So} {env : Env} {en : En} {A : List Nat} {r : Rs β}
theorem at_vals {ms : List M} {k : List D → Rv α} (h : ∀ ds, valsM ms = some ds → SimAt R p S env en A r (k ds)) : SimAt R p S env en A r (match valsM ms with
    | some ds => k ds
    | none => .no) := by
  cases e : valsM ms with
  | none => exact trivial
  | some ds => exact h ds e
theorem at_if {c : Prop} [Decidable c] {rv : Rv α} (h : c → SimAt R p S env en A r rv) : SimAt R p S env en A r (if c then rv else .no) := by
  by_cases hc : c
  · rw [if_pos hc]; exact h hc
  · rw [if_neg hc]; exact trivial
end cases
section tests
variable {p pa pb pc pd x xa xb xc xd : Bool} {fa fb fc fd : FE} {va vb vc vd : VE} {ga gb : FT} {ta tb : VT}
def isBm (m : M) (e : Env) : Rv Bool := match m with
  | .val (.bl b) => .ok b e
  | _ => .no
def vTst (v : VE) : VT := fun env => (v env).bind isBm
theorem st_tst (h : SimE p x fa va) : SimT p (fTst fa) (vTst va) := by
  have := SimR.bind (R2 := RB) (p2 := true) (k := fun d en S => isB d S) (kv := isBm) h fun a d env en S As B he r nd => by
    unfold isBm
    split
    · rename_i b
      have : d = .bl b := vwd_eq r.vw (by simp)
      subst this
      exact ok_dropG he nd ⟨rfl, rfl⟩
    · exact trivial
  rw [Bool.and_true] at this
  exact this
def isTm (m : M) (e : Env) : Rv Bool := match m with
  | .val d => match truD [] d with
    | some b => .ok b e
    | none => .no
  | _ => .no
def vTru (v : VE) : VT := fun env => (v env).bind isTm
theorem st_tru (h : SimE p x fa va) : SimT p (fTru fa) (vTru va) := by
  have := SimR.bind (R2 := RB) (p2 := true) (k := fun d en S => isT d S) (kv := isTm) h fun a d env en S As B he r nd => by
    unfold isTm
    split
    · rename_i y
      have hv : VwD S y d := r.vw
      split
      · rename_i b hb
        have : isT d S = .ok b S := by unfold isT; rw [tru_vw hv, hb]
        rw [this]
        exact ok_dropG he nd ⟨rfl, rfl⟩
      · exact trivial
    · exact trivial
  rw [Bool.and_true] at this
  exact this
def vNotT (g : VT) : VT := fun env => (g env).bind fun k e => .ok (!k) e
theorem st_not (h : SimT p ga ta) : SimT p (fNotT ga) (vNotT ta) := by
  have := SimR.bind (R2 := RB) (p2 := true) (k := fun k en S => .ok (!k) S) (kv := fun k e => .ok (!k) e) h fun a d env en S As B he r nd => by
    obtain ⟨rfl, rfl⟩ := r
    exact ok_dropG he nd ⟨rfl, rfl⟩
  rw [Bool.and_true] at this
  exact this
def vAndT (g h : VT) : VT := fun env => (g env).bind fun k e => if k = true then h e else .ok false e
def vOrT (g h : VT) : VT := fun env => (g env).bind fun k e => if k = true then .ok true e else h e
theorem sim_b (b : Bool) : SimT true (fun _ S => .ok b S) (fun e => .ok b e) := ⟨fun env en S As he nd => by
  have := ok_dropG (R := RB) (p := true) (B := []) (a := b) (b := b) (en := en) he (by simpa using nd) ⟨rfl, rfl⟩
  simpa using this⟩
theorem st_and (h : SimT pa ga ta) (k : SimT pb gb tb) : SimT (pa && pb) (fAndT ga gb) (vAndT ta tb) := by
  have := SimR.ite h k (sim_b false)
  rw [Bool.and_true] at this
  exact this
theorem st_or (h : SimT pa ga ta) (k : SimT pb gb tb) : SimT (pa && pb) (fOrT ga gb) (vOrT ta tb) := by
  have := SimR.ite h (sim_b true) k
  rw [Bool.true_and] at this
  exact this
def vIf (g : VT) (v h : VE) : VE := fun env => (g env).bind fun k e => if k = true then v e else h e
theorem se_if (h : SimT p ga ta) (ha : SimE pa x fa va) (hb : SimE pb x fb vb) : SimE (p && (pa && pb)) x (fIf ga fa fb) (vIf ta va vb) := SimR.ite h ha hb
def vIfT (g : VT) (v h : VT) : VT := fun env => (g env).bind fun k e => if k = true then v e else h e
theorem st_if {gc : FT} {tc : VT} (h : SimT p gc tc) (ha : SimT pa ga ta) (hb : SimT pb gb tb) : SimT (p && (pa && pb)) (fIfT gc ga gb) (vIfT tc ta tb) := SimR.ite h ha hb
/-- bools as values -/
def asBm (m : M) (k : Bool → Rv M) : Rv M := match m with
  | .val (.bl b) => k b
  | _ => .no
theorem at_bl {R : So → M → D → List Nat → Prop} {S : So} {env : Env} {en : En} {A : List Nat} {r : Rs D} {a : M} {k : Bool → Rv M} (h : ∀ b, a = .val (.bl b) → SimAt R p S env en A r (k b)) : SimAt R p S env en A r (asBm a k) := by
  cases a with
  | val d => cases d <;> first | exact trivial | exact h _ rfl
  | _ => exact trivial
def vAndV (f g : VE) : VE := fun env => (f env).bind fun m e => asBm m fun k => if k = true then g e else .ok (.val (.bl false)) e
def vOrV (f g : VE) : VE := fun env => (f env).bind fun m e => asBm m fun k => if k = true then .ok (.val (.bl true)) e else g e
def vNotV (f : VE) : VE := fun env => (f env).bind fun m e => asBm m fun k => .ok (.val (.bl (!k))) e
theorem re_bl (x b : Bool) {S : So} : RE x S (.val (.bl b)) (.bl b) [] := by
  cases x with
  | true => exact (show Rep S _ _ _ from Rep.val rfl)
  | false => exact ⟨.inl ⟨rfl, rfl⟩, rfl⟩
theorem se_andV (h : SimE pa xa fa va) (k : SimE pb x fb vb) : SimE (pa && pb) x (fAndV fa fb) (vAndV va vb) :=
  SimR.bind (k := fun d en S1 => match d with
    | .bl k => if k = true then fb en S1 else .ok (.bl false) S1
    | _ => .no) h fun a d env en S As B he r nd => by
    refine at_bl fun b ha => ?_
    subst ha
    have : d = .bl b := vwd_eq r.vw (by simp)
    subst this
    cases b with
    | true => exact k.at he nd (fun z => z)
    | false => exact ok_dropG he nd (re_bl x false)
theorem se_orV (h : SimE pa xa fa va) (k : SimE pb x fb vb) : SimE (pa && pb) x (fOrV fa fb) (vOrV va vb) :=
  SimR.bind (k := fun d en S1 => match d with
    | .bl k => if k = true then .ok (.bl true) S1 else fb en S1
    | _ => .no) h fun a d env en S As B he r nd => by
    refine at_bl fun b ha => ?_
    subst ha
    have : d = .bl b := vwd_eq r.vw (by simp)
    subst this
    cases b with
    | false => exact k.at he nd (fun z => z)
    | true => exact ok_dropG he nd (re_bl x true)
theorem se_notV (h : SimE pa xa fa va) : SimE pa true (fNotV fa) (vNotV va) := by
  have := SimR.bind (R2 := RE true) (p2 := true) (k := fun d en S1 => match d with
    | .bl k => .ok (.bl (!k)) S1
    | _ => .no) (kv := fun m e => asBm m fun k => .ok (.val (.bl (!k))) e) h fun a d env en S As B he r nd => by
    refine at_bl fun b ha => ?_
    subst ha
    have : d = .bl b := vwd_eq r.vw (by simp)
    subst this
    exact ok_dropG he nd (re_bl true (!b))
  rw [Bool.and_true] at this
  exact this
/-- a op b op' c -/
def vChain (g g' : G2) (va vb vc : VE) : VE := fun env => (va env).bind fun a e1 => (vb e1).bind fun b e2 => (ofM (liftG g a b) e2).bind fun z e3 => asBm z fun k => if k = true then (vc e3).bind fun c e4 => ofM (liftG g' b c) e4 else .ok (.val (.bl false)) e3
theorem lift_run {g : G2} (hg : OpV g) {S : So} {a b m : M} {d e : D} (ra : Vw S a d) (rb : Vw S b e) (h : liftG g a b = some m) : ∃ r, m = .val r ∧ g d e S = some (r, S) ∧ nr r = true := by
  unfold liftG at h
  split at h
  · rename_i x y
    cases hq : g x y [] with
    | none => rw [hq] at h; cases h
    | some r =>
      rw [hq] at h
      obtain ⟨r, T⟩ := r
      simp only [Option.map_some, Option.some.injEq] at h
      subst h
      obtain ⟨h1, h2⟩ := hg.run S x y d e r T ra rb hq
      exact ⟨r, rfl, h1, h2⟩
  · cases h
/-- the last comparison, its left side held -/
theorem last_cmp {g : G2} (hg : OpV g) (hc : SimE pc xc fc vc) (hx : (xb || pc) = true) {b : M} {y : D} {env : Env} {en : En} {S : So} {As : List (List Nat)} {B : List Nat} (he : EnvR S env en As) (r : RE xb S b y B) (nd : Nd (As.flatten ++ B)) :
    SimAt (RE true) pc S env en (As.flatten ++ B) ((fc en S).bind fun w S4 => ofO (g y w S4)) ((vc env).bind fun c e4 => ofM (liftG g b c) e4) := by
  have q := SimAt.map (p2 := true) (R2 := RE true) (SimR.hold hc (stab_re hx) inl_re he r nd) (k := fun e S2 => ofO (g y e S2)) (kv := fun c e2 => ofM (liftG g b c) e2) fun c e env1 S1 As1 B1 he1 r1 nd1 => by
    obtain ⟨B2, B3, rfl, r2, r3⟩ := r1
    cases hk : liftG g b c with
    | none => exact trivial
    | some m =>
      obtain ⟨r, rfl, e1, e2⟩ := lift_run hg r2.vw r3.vw hk
      rw [e1]
      exact ok_dropG he1 nd1 (show Rep _ _ _ _ from Rep.val e2)
  rw [Bool.and_true] at q
  exact q
theorem se_chain {g g' : G2} (hg : OpV g) (hg' : OpV g') (ha : SimE pa xa fa va) (hb : SimE pb xb fb vb) (hc : SimE pc xc fc vc) (hx : (xa || pb) = true := by rfl) (hy : (xb || pc) = true := by rfl) : SimE (pa && (pb && pc)) true (fChain g g' fa fb fc) (vChain g g' va vb vc) :=
  SimR.bind ha fun a x env en S As B he r nd => by
    refine SimAt.map (p2 := pc) (R2 := RE true) (SimR.hold hb (stab_re hx) inl_re he r nd) (kv := fun b e2 => (ofM (liftG g a b) e2).bind fun z e3 => asBm z fun k => if k = true then (vc e3).bind fun c e4 => ofM (liftG g' b c) e4 else .ok (.val (.bl false)) e3) fun b y env1 S1 As1 B1 he1 r1 nd1 => ?_
    obtain ⟨B2, B3, rfl, r2, r3⟩ := r1
    cases hk : liftG g a b with
    | none => exact trivial
    | some m =>
      obtain ⟨r, rfl, e1, e2⟩ := lift_run hg r2.vw r3.vw hk
      rw [e1]
      show SimAt _ _ _ _ _ _ _ (asBm (.val r) _)
      unfold asBm
      split
      · rename_i k heq
        cases heq
        cases k with
        | true =>
          have nd2 : Nd (As1.flatten ++ B3) := nd1.le fun a => by simp only [List.count_append]; omega
          exact (last_cmp hg' hc hy he1 r3 nd2).wide fun n hn => by simp only [List.mem_append] at hn ⊢; rcases hn with hn | hn <;> simp [hn]
        | false => exact ok_dropG he1 nd1 (re_bl true false)
      · exact trivial
/-- a op b op' c op'' d -/
def vChain3 (g g' g'' : G2) (va vb vc vd : VE) : VE := fun env => (va env).bind fun a e1 => (vb e1).bind fun b e2 => (ofM (liftG g a b) e2).bind fun z e3 => asBm z fun k => if k = true then (vc e3).bind fun c e4 => (ofM (liftG g' b c) e4).bind fun z e5 => asBm z fun k => if k = true then (vd e5).bind fun d e6 => ofM (liftG g'' c d) e6 else .ok (.val (.bl false)) e5 else .ok (.val (.bl false)) e3
end tests
section args
variable {p pa pb pc x xa xb xc : Bool} {fa fb fc : FE} {va vb vc : VE} {gs : FA} {ws : VA}
def vNil : VA := fun env => .ok [] env
def vCons (f : VE) (g : VA) : VA := fun env => (f env).bind fun m e => (g e).bind fun ms e2 => .ok (m :: ms) e2
theorem sa_nil : SimA true fNil vNil := ⟨fun env en S As he nd => by
  have := ok_dropG (R := Reps) (p := true) (B := []) (en := en) he (by simpa using nd) (Reps.nil (S := S))
  rw [List.append_nil] at this
  exact this⟩
theorem sa_cons (ha : SimE pa true fa va) (hb : SimA pb gs ws) : SimA (pa && pb) (fCons fa gs) (vCons va ws) :=
  SimR.bind ha fun a d env en S As B he r nd => by
    have q := SimAt.map (p2 := true) (R2 := Reps) (SimR.hold hb (stab_rep pb) inl_re he r nd) (k := fun ds S2 => .ok (d :: ds) S2) (kv := fun ms e2 => .ok (a :: ms) e2) fun ms ds env1 S1 As1 B1 he1 r1 nd1 => by
      obtain ⟨B2, B3, rfl, r2, r3⟩ := r1
      have := SimAt.ok (R := Reps) (p := true) (J := []) (en := en) (B := B2 ++ B3) he1 nd1 (fun n hn => by simp [hn]) (by rw [List.append_nil]; exact Reps.cons r2 r3) nd1 (fun n hn => .inl (by simp only [List.mem_append] at hn ⊢; exact .inr hn))
      rw [List.append_nil] at this
      exact this
    rw [Bool.and_true] at q
    exact q
/-- arguments that are looked at alone -/
def RAv (S : So) (ms : List M) (ds : List D) (B : List Nat) : Prop := B = [] ∧ ms.length = ds.length ∧ ∀ (i : Nat) m d, ms[i]? = some m → ds[i]? = some d → Vw S m d
abbrev SimAV (p : Bool) (f : FA) (v : VA) : Prop := SimR RAv p f v
theorem sav_nil : SimAV true fNil vNil := ⟨fun env en S As he nd => by
  have := ok_dropG (R := RAv) (p := true) (B := []) (a := []) (b := []) (en := en) he (by simpa using nd) ⟨rfl, rfl, by simp⟩
  rw [List.append_nil] at this
  exact this⟩
theorem sav_cons (ha : SimE pa xa fa va) (hb : SimAV pb gs ws) (hx : (xa || pb) = true := by rfl) : SimAV (pa && pb) (fCons fa gs) (vCons va ws) :=
  SimR.bind ha fun a d env en S As B he r nd => by
    have q := SimAt.map (p2 := true) (R2 := RAv) (SimR.hold hb (stab_re hx) inl_re he r nd) (k := fun ds S2 => .ok (d :: ds) S2) (kv := fun ms e2 => .ok (a :: ms) e2) fun ms ds env1 S1 As1 B1 he1 r1 nd1 => by
      obtain ⟨B2, B3, rfl, r2, r3⟩ := r1
      refine ok_dropG he1 nd1 ⟨rfl, by simp [r3.2.1], fun i m e h1 h2 => ?_⟩
      cases i with
      | zero => simp at h1 h2; subst h1; subst h2; exact r2.vw
      | succ i => exact r3.2.2 i m e (by simpa using h1) (by simpa using h2)
    rw [Bool.and_true] at q
    exact q
theorem rav_vwds {S : So} {ds : List D} : ∀ {xs : List D} {B : List Nat}, RAv S (xs.map M.val) ds B → VwDs S xs ds
  := by
  intro xs
  induction xs generalizing ds with
  | nil => intro B h; have := h.2.1; cases ds with
    | nil => rfl
    | cons _ _ => simp at this
  | cons x xs ih =>
    intro B h
    cases ds with
    | nil => have := h.2.1; simp at this
    | cons d ds =>
      refine ⟨d, ds, rfl, h.2.2 0 (.val x) d rfl rfl, ih (B := []) ⟨rfl, by have := h.2.1; simpa using this, fun i m e h1 h2 => h.2.2 (i + 1) m e (by simpa using h1) (by simpa using h2)⟩⟩
def liftA (g : GA) (ms : List M) : Option M := match valsM ms with
  | some xs => (g xs []).map fun r => .val r.1
  | none => none
def vCB (g : GA) (va : VA) : VE := fun env => (va env).bind fun ms e => ofM (liftA g ms) e
theorem liftA_run {g : GA} (hg : CallV g) {S : So} {ms : List M} {ds : List D} {B : List Nat} {m : M} (ra : RAv S ms ds B) (h : liftA g ms = some m) : ∃ r, m = .val r ∧ g ds S = some (r, S) ∧ nr r = true := by
  unfold liftA at h
  split at h
  · rename_i xs hx
    rw [valsM_eq hx] at ra
    cases hq : g xs [] with
    | none => rw [hq] at h; cases h
    | some r =>
      rw [hq] at h
      obtain ⟨r, T⟩ := r
      simp only [Option.map_some, Option.some.injEq] at h
      subst h
      obtain ⟨h1, h2⟩ := hg.run S xs ds r T (rav_vwds ra) hq
      exact ⟨r, rfl, h1, h2⟩
  · cases h
theorem se_cb {g : GA} (hg : CallV g) (ha : SimAV pa gs ws) : SimE pa true (fCB g gs) (vCB g ws) := by
  have := SimR.bind (R2 := RE true) (p2 := true) (k := fun ds en S => ofO (g ds S)) (kv := fun ms e => ofM (liftA g ms) e) ha fun ms ds env en S As B he r nd => by
    cases hk : liftA g ms with
    | none => exact trivial
    | some m =>
      obtain ⟨r, rfl, e1, e2⟩ := liftA_run hg r hk
      rw [e1]
      exact ok_dropG he nd (show Rep _ _ _ _ from Rep.val e2)
  rw [Bool.and_true] at this
  exact this
structure OwnCall (g gm : GA) : Prop where
  run : ∀ (S : So) (es : List D) (ds : List D), g es S = some (.lst ds, S) → gm es S = some (.ref S.length, S ++ [.lst ds])
theorem se_cbN {g gm : GA} (hg : CallV g) (hm : OwnCall g gm) (ha : SimAV pa gs ws) : SimE pa true (fCB gm gs) (vOwn (vCB g ws)) := by
  have := SimR.bind (R2 := RE true) (p2 := true) (k := fun ds en S => ofO (gm ds S)) (kv := fun ms e => ofM ((liftA g ms).bind ownM) e) ha fun ms ds env en S As B he r nd => by
    cases hk : (liftA g ms).bind ownM with
    | none => exact trivial
    | some m =>
      cases hl : liftA g ms with
      | none => rw [hl] at hk; cases hk
      | some y =>
        rw [hl] at hk
        obtain ⟨r, rfl, e1, e2⟩ := liftA_run hg r hl
        simp only [Option.bind_some] at hk
        unfold ownM at hk
        split at hk
        · rename_i es heq
          cases heq; cases hk
          rw [hm.run S ds es e1]
          exact new_at he (Reps.vals (by simpa [nr] using e2)) nd (by simpa using nd.left) (by simp)
        · cases hk
  rw [Bool.and_true] at this
  have e : (vOwn (vCB g ws)) = (fun env => (ws env).bind fun ms e => ofM ((liftA g ms).bind ownM) e) := by
    funext env
    simp only [vOwn, vCB]
    cases ws env with
    | ok a e1 => simp only [Rv.bind]; cases liftA g a <;> rfl
    | ex => rfl
    | no => rfl
  rw [e]
  exact this
theorem own_sorted : OwnCall (gSorted false) (gSorted true) := ⟨fun S es ds h => by
  unfold gSorted at h ⊢
  split at h
  · split at h
    · split at h
      · simp only [newL_f, Option.some.injEq, Prod.mk.injEq, D.lst.injEq] at h
        simp only [newL_t, h.1]
      · cases h
    · cases h
  · cases h⟩
theorem own_list : OwnCall (gList false) (gList true) := ⟨fun S es ds h => by
  unfold gList at h ⊢
  split at h
  · split at h
    · simp only [newL_f, Option.some.injEq, Prod.mk.injEq, D.lst.injEq] at h
      simp only [newL_t, h.1]
    · cases h
  · cases h⟩
/-- displays -/
def vTup (g : VA) : VE := fun env => (g env).bind fun ms e => match valsM ms with
  | some ds => if ds.length ≤ 1000000 then .ok (.val (.tup ds)) e else .no
  | none => .no
theorem se_tup (ha : SimA pa gs ws) : SimE pa true (fTup gs) (vTup ws) := by
  have := SimR.bind (R2 := RE true) (p2 := true) (k := fun ds en S1 => if ds.length ≤ sizeLine then .ok (.tup ds) S1 else .no) (kv := fun ms e => match valsM ms with
    | some ds => if ds.length ≤ 1000000 then .ok (.val (.tup ds)) e else .no
    | none => .no) ha fun ms ds env en S As B he r nd => by
    refine at_vals fun es hm => at_if fun hl => ?_
    rw [valsM_eq hm] at r
    obtain ⟨e1, h4, e2⟩ := Reps.vals_of r
    subst e1
    rw [if_pos (lim_le hl)]
    exact ok_dropG he nd (show Rep _ _ _ _ from Rep.val (by simpa [nr] using h4))
  rw [Bool.and_true] at this
  exact this
def vLst (g : VA) : VE := fun env => (g env).bind fun ms e => match valsM ms with
  | some ds => if ds.length ≤ 1000000 then .ok (.val (.lst ds)) e else .no
  | none => .no
theorem se_lst (ha : SimA pa gs ws) : SimE pa true (fLst false gs) (vLst ws) := by
  have := SimR.bind (R2 := RE true) (p2 := true) (k := fun ds en S1 => if ds.length ≤ sizeLine then ofO (some (newL false ds S1)) else .no) (kv := fun ms e => match valsM ms with
    | some ds => if ds.length ≤ 1000000 then .ok (.val (.lst ds)) e else .no
    | none => .no) ha fun ms ds env en S As B he r nd => by
    refine at_vals fun es hm => at_if fun hl => ?_
    rw [valsM_eq hm] at r
    obtain ⟨e1, h4, e2⟩ := Reps.vals_of r
    subst e1
    rw [if_pos (lim_le hl)]
    exact ok_dropG he nd (show Rep _ _ _ _ from Rep.val (by simpa [nr] using h4))
  rw [Bool.and_true] at this
  exact this
def vLstN (g : VA) : VE := fun env => (g env).bind fun ms e => if ms.length ≤ 1000000 then .ok (.lst ms) e else .no
theorem se_lstN (ha : SimA pa gs ws) : SimE pa true (fLst true gs) (vLstN ws) := by
  have := SimR.bind (R2 := RE true) (p2 := true) (k := fun ds en S1 => if ds.length ≤ sizeLine then ofO (some (newL true ds S1)) else .no) (kv := fun ms e => if ms.length ≤ 1000000 then .ok (.lst ms) e else .no) ha fun ms ds env en S As B he r nd => by
    refine at_if fun hl => ?_
    rw [if_pos (lim_le (by rw [← r.length]; exact hl))]
    exact new_at he r nd nd (fun n hn => .inl (by simp [hn]))
  rw [Bool.and_true] at this
  exact this
end args
end VF

namespace VF
open PySem L2 PF
variable [Tab]
theorem set_self {α : Type} : ∀ {l : List α} {j : Nat} {a : α}, l[j]? = some a → l.set j a = l
  | [], j, a, h => by simp at h
  | b :: l, 0, a, h => by simp at h; subst h; rfl
  | b :: l, j + 1, a, h => by rw [List.set_cons_succ, set_self (by simpa using h)]
/-! ### parts of what is owned -/
inductive Stp where
  | fld (C : Addr) (k : Nat) (x : Str) | ix (j : Nat)
def M.sub : Stp → M → Option M
  | .fld C k x, .ins C' ns ms => if C' = C ∧ ns[k]? = some x then ms[k]? else none
  | .ix j, .lst ms => ms[j]?
  | _, _ => none
def M.wr : Stp → M → M → M
  | .fld _ k _, .ins C ns ms, m => .ins C ns (ms.set k m)
  | .ix j, .lst ms, m => .lst (ms.set j m)
  | _, m0, _ => m0
def M.at : List Stp → M → Option M
  | [], m => some m
  | s :: p, m => match m.sub s with
    | some m' => M.at p m'
    | none => none
def M.wrs : List Stp → M → M → M
  | [], _, m2 => m2
  | s :: p, m, m2 => match m.sub s with
    | some m' => m.wr s (M.wrs p m' m2)
    | none => m
/-- the same in the store -/
def StpR (S : So) (s : Stp) (d e : D) : Prop := match s with
  | .fld C k x => ∃ n fs, d = .ref n ∧ S[n]? = some (.ins C fs) ∧ fs[k]? = some (x, e) ∧ ∀ j, j < k → ∀ y, fs[j]? = some y → y.1 ≠ x
  | .ix j => ∃ n ds, d = .ref n ∧ S[n]? = some (.lst ds) ∧ ds[j]? = some e
def PathR (S : So) : List Stp → D → D → Prop
  | [], d, e => e = d
  | s :: p, d, e => ∃ c, StpR S s d c ∧ PathR S p c e
theorem StpR.more {S J : So} {s : Stp} {d e : D} (h : StpR S s d e) : StpR (S ++ J) s d e := by
  cases s with
  | fld C k x => obtain ⟨n, fs, h1, h2, h3⟩ := h; exact ⟨n, fs, h1, by rw [get_app (List.getElem?_eq_some_iff.mp h2).1]; exact h2, h3⟩
  | ix j => obtain ⟨n, fs, h1, h2, h3⟩ := h; exact ⟨n, fs, h1, by rw [get_app (List.getElem?_eq_some_iff.mp h2).1]; exact h2, h3⟩
theorem PathR.more {S J : So} : ∀ {p : List Stp} {d e : D}, PathR S p d e → PathR (S ++ J) p d e
  | [], d, e, h => h
  | s :: p, d, e, ⟨c, h1, h2⟩ => ⟨c, h1.more, PathR.more h2⟩
theorem PathR.snoc {S : So} {s : Stp} : ∀ {p : List Stp} {d c e : D}, PathR S p d c → StpR S s c e → PathR S (p ++ [s]) d e
  | [], d, c, e, h, k => by cases h; exact ⟨e, k, rfl⟩
  | t :: p, d, c, e, ⟨b, h1, h2⟩, k => ⟨b, h1, PathR.snoc h2 k⟩
theorem StpR.det {S : So} {s : Stp} {d e e' : D} (h : StpR S s d e) (k : StpR S s d e') : e = e' := by
  cases s with
  | fld C k' x =>
    obtain ⟨n, fs, rfl, h2, h3, _⟩ := h
    obtain ⟨m, gs, q, g2, g3, _⟩ := k
    cases q
    rw [h2] at g2; cases g2
    rw [h3] at g3; cases g3; rfl
  | ix j =>
    obtain ⟨n, fs, rfl, h2, h3⟩ := h
    obtain ⟨m, gs, q, g2, g3⟩ := k
    cases q
    rw [h2] at g2; cases g2
    rw [h3] at g3; cases g3; rfl
theorem PathR.det {S : So} : ∀ {p : List Stp} {d e e' : D}, PathR S p d e → PathR S p d e' → e = e'
  | [], d, e, e', h, k => by cases h; cases k; rfl
  | s :: p, d, e, e', ⟨c, h1, h2⟩, ⟨c', k1, k2⟩ => by
    have := h1.det k1
    subst this
    exact PathR.det h2 k2
theorem nodup_take_ne {ns : List Str} {k j : Nat} {x y : Str} (nd : ns.Nodup) (hx : ns[k]? = some x) (hy : ns[j]? = some y) (h : j < k) : y ≠ x := fun q => by
  subst q
  have h1 := (List.getElem?_eq_some_iff.mp hx)
  have h2 := (List.getElem?_eq_some_iff.mp hy)
  have := (List.getElem_inj nd).mp (h1.2.trans h2.2.symm)
  omega
theorem sub_rep {S : So} {s : Stp} {m m' : M} {d : D} {A : List Nat} (h : Rep S m d A) (k : m.sub s = some m') :
    ∃ e A1 A' A2, StpR S s d e ∧ A = A1 ++ A' ++ A2 ∧ Rep S m' e A' ∧ ∀ (S2 : So) (m2 : M) (B : List Nat), (∀ n ∈ A1 ++ A2, S2[n]? = S[n]?) → Rep S2 m2 e B → Rep S2 (m.wr s m2) d (A1 ++ B ++ A2) := by
  cases s with
  | fld C k' x =>
    cases m with
    | ins C' ns ms =>
      simp only [M.sub] at k
      split at k
      · rename_i hc
        obtain ⟨rfl, hx⟩ := hc
        unfold Rep at h
        obtain ⟨n, fs, B, rfl, h2, h3, h4, h5, rfl⟩ := h
        obtain ⟨e, A1, A', A2, g1, rfl, g3, g4⟩ := Reps.at h5 k
        have hk : k' < fs.length := by
          have := (List.getElem?_eq_some_iff.mp g1).1
          simpa using this
        have hfk : fs[k']? = some (x, e) := by
          rw [List.getElem?_map, List.getElem?_eq_getElem hk] at g1
          have e2 : (fs.map (·.1))[k']? = some x := by rw [h4, List.getElem?_take, if_pos hk]; exact hx
          rw [List.getElem?_map, List.getElem?_eq_getElem hk] at e2
          rw [List.getElem?_eq_getElem hk]
          simp only [Option.map_some, Option.some.injEq] at g1 e2
          rw [← g1, ← e2]
        refine ⟨e, n :: A1, A', A2, ⟨n, fs, rfl, h2, hfk, fun j hj y hy => ?_⟩, rfl, g3, fun S2 m2 B2 f r => ?_⟩
        · have hjl : j < fs.length := by omega
          have e2 : (fs.map (·.1))[j]? = ns[j]? := by rw [h4, List.getElem?_take, if_pos hjl]
          rw [List.getElem?_map, hy] at e2
          exact nodup_take_ne h3 hx e2.symm hj
        · simp only [M.wr]
          unfold Rep
          have hs := g4 S2 m2 e B2 (fun z hz => f z (by simp only [List.mem_append] at hz; simp only [List.cons_append, List.mem_cons, List.mem_append]; exact .inr hz)) r
          have he : (fs.map (·.2)).set k' e = fs.map (·.2) := set_self g1
          rw [he] at hs
          exact ⟨n, fs, A1 ++ B2 ++ A2, rfl, by rw [f n (by simp)]; exact h2, h3, h4, hs, rfl⟩
      · cases k
    | _ => simp [M.sub] at k
  | ix j =>
    cases m with
    | lst ms =>
      simp only [M.sub] at k
      unfold Rep at h
      obtain ⟨n, ds, B, rfl, h2, h3, rfl⟩ := h
      obtain ⟨e, A1, A', A2, g1, rfl, g3, g4⟩ := Reps.at h3 k
      refine ⟨e, n :: A1, A', A2, ⟨n, ds, rfl, h2, g1⟩, rfl, g3, fun S2 m2 B2 f r => ?_⟩
      simp only [M.wr]
      unfold Rep
      have hs := g4 S2 m2 e B2 (fun z hz => f z (by simp only [List.mem_append] at hz; simp only [List.cons_append, List.mem_cons, List.mem_append]; exact .inr hz)) r
      rw [set_self g1] at hs
      exact ⟨n, ds, A1 ++ B2 ++ A2, rfl, by rw [f n (by simp)]; exact h2, hs, rfl⟩
    | _ => simp [M.sub] at k
theorem at_rep {S : So} : ∀ {p : List Stp} {m m' : M} {d : D} {A : List Nat}, Rep S m d A → m.at p = some m' →
    ∃ e A1 A' A2, PathR S p d e ∧ A = A1 ++ A' ++ A2 ∧ Rep S m' e A' ∧ ∀ (S2 : So) (m2 : M) (B : List Nat), (∀ n ∈ A1 ++ A2, S2[n]? = S[n]?) → Rep S2 m2 e B → Rep S2 (m.wrs p m2) d (A1 ++ B ++ A2)
  | [], m, m', d, A, h, k => by
    simp only [M.at] at k; cases k
    exact ⟨d, [], A, [], rfl, by simp, h, fun S2 m2 B f r => by simpa [M.wrs] using r⟩
  | s :: p, m, m', d, A, h, k => by
    simp only [M.at] at k
    split at k
    · rename_i m1 hm
      obtain ⟨e1, A1, A', A2, h1, rfl, h3, h4⟩ := sub_rep h hm
      obtain ⟨e, B1, B', B2, g1, rfl, g3, g4⟩ := at_rep h3 k
      refine ⟨e, A1 ++ B1, B', B2 ++ A2, ⟨e1, h1, g1⟩, by simp, g3, fun S2 m2 B f r => ?_⟩
      simp only [M.wrs, hm]
      have := h4 S2 _ _ (fun n hn => f n (by simp only [List.mem_append] at hn ⊢; rcases hn with hn | hn <;> simp [hn])) (g4 S2 m2 B (fun n hn => f n (by simp only [List.mem_append] at hn ⊢; rcases hn with hn | hn <;> simp [hn])) r)
      simpa using this
    · cases k
/-! ### places -/
abbrev Pl := Env → Option (Nat × List Stp)
def Env.look (env : Env) (i : Nat) (p : List Stp) : Option M := match env.o[i]? with
  | some (some m) => m.at p
  | _ => none
/-- s: the place is a name -/
structure SimP (s : Bool) (f : FE) (P : Pl) : Prop where
  run : ∀ (env : Env) (en : En) (S : So) (As : List (List Nat)) (i : Nat) (p : List Stp) (m : M), EnvR S env en As → Nd As.flatten → P env = some (i, p) → env.look i p = some m → ∃ J d0 d, f en S = .ok d (S ++ J) ∧ en[i]? = some (some d0) ∧ PathR S p d0 d
  nm : s = true → ∀ (env : Env) (i : Nat) (p : List Stp), P env = some (i, p) → p = []
def pVar (i : Nat) : Pl := fun env => some (i, [])
theorem sp_var (i : Nat) : SimP true (fVar i) (pVar i) := by
  refine ⟨fun env en S As j p m he nd h hl => ?_, fun _ env j p h => ?_⟩
  · simp only [pVar, Option.some.injEq, Prod.mk.injEq] at h
    obtain ⟨rfl, rfl⟩ := h
    unfold Env.look at hl
    split at hl
    · rename_i m0 h0
      obtain ⟨d, A, h1, h2, h3⟩ := at_var he h0
      exact ⟨[], d, d, by simp [fVar, h1], h1, rfl⟩
    · cases hl
  · simp only [pVar, Option.some.injEq, Prod.mk.injEq] at h; exact h.2.symm
theorem look_rep {S : So} {env : Env} {en : En} {As : List (List Nat)} {i : Nat} {p : List Stp} {m : M} (he : EnvR S env en As) (h : env.look i p = some m) :
    ∃ m0 d0 A, env.o[i]? = some (some m0) ∧ en[i]? = some (some d0) ∧ As[i]? = some A ∧ Rep S m0 d0 A ∧ m0.at p = some m := by
  unfold Env.look at h
  split at h
  · rename_i m0 h0
    obtain ⟨d, A, h1, h2, h3⟩ := at_var he h0
    exact ⟨m0, d, A, h0, h1, h2, h3, h⟩
  · cases h
def vGet (P : Pl) : VE := fun env => match P env with
  | some (i, p) => match env.look i p with
    | some m => ofM (lookM m) env
    | none => .no
  | none => .no
theorem se_get {s : Bool} {f : FE} {P : Pl} (h : SimP s f P) : SimE true false f (vGet P) := ⟨fun env en S As he nd => by
  unfold vGet
  split
  · rename_i i p hP
    cases hl : env.look i p with
    | none => exact trivial
    | some m =>
      obtain ⟨J, d0, d, h1, h2, h3⟩ := h.run env en S As i p m he nd hP hl
      obtain ⟨m0, d0', A, g1, g2, g3, g4, g5⟩ := look_rep he hl
      rw [h2] at g2; cases g2
      obtain ⟨e, A1, A', A2, k1, k2, k3, k4⟩ := at_rep g4 g5
      have := h3.det k1
      subst this
      show SimAt _ _ _ _ _ _ _ (ofM (lookM m) env)
      cases hx : lookM m with
      | none => exact trivial
      | some x =>
        rw [h1]
        exact SimAt.ok (B := []) he nd (fun _ h => h) ⟨(look_vw k3 hx).more, rfl⟩ (by simpa using nd) (by simp)
  · exact trivial⟩
/-- an item of a list that is owned -/
def pIx (P : Pl) (v : VE) : Pl := fun env => match P env with
  | some (i, p) => match env.look i p, v env with
    | some (.lst ms), .ok (.val (.int k)) _ => match ixN ms.length k with
      | some j => some (i, p ++ [.ix j])
      | none => none
    | _, _ => none
  | none => none
theorem at_app : ∀ (p : List Stp) (s : Stp) (m : M), m.at (p ++ [s]) = (m.at p).bind (M.sub s)
  | [], s, m => by
    show (match m.sub s with
      | some m' => some m'
      | none => none) = m.sub s
    cases m.sub s <;> rfl
  | t :: p, s, m => by
    simp only [List.cons_append, M.at]
    cases m.sub t with
    | none => rfl
    | some m' => exact at_app p s m'
theorem look_app {env : Env} {i : Nat} {p : List Stp} {s : Stp} {m : M} (h : env.look i (p ++ [s]) = some m) : ∃ m1, env.look i p = some m1 ∧ m1.sub s = some m := by
  unfold Env.look at h ⊢
  split at h
  · rename_i m0 h0
    rw [at_app] at h
    cases e : m0.at p with
    | none => rw [e] at h; cases h
    | some m1 => rw [e] at h; exact ⟨m1, rfl, h⟩
  · cases h
theorem sp_ix {s x : Bool} {f fi : FE} {P : Pl} {v : VE} (h : SimP s f P) (hi : SimE true x fi v) : SimP false (fOp gIx f fi) (pIx P v) := by
  refine ⟨fun env en S As i p m he nd hP hl => ?_, fun z => (by cases z)⟩
  unfold pIx at hP
  split at hP
  · rename_i i0 p0 hP0
    split at hP
    · rename_i ms k e0 hl0 hv
      split at hP
      · rename_i j hj
        simp only [Option.some.injEq, Prod.mk.injEq] at hP
        obtain ⟨rfl, rfl⟩ := hP
        obtain ⟨J, d0, d, h1, h2, h3⟩ := h.run env en S As i0 p0 _ he nd hP0 hl0
        obtain ⟨m0, d0', A, g1, g2, g3, g4, g5⟩ := look_rep he hl0
        rw [h2] at g2; cases g2
        obtain ⟨e, A1, A', A2, k1, k2, k3, k4⟩ := at_rep g4 g5
        have := h3.det k1
        subst this
        obtain ⟨m1, q1, q2⟩ := look_app hl
        rw [hl0] at q1; cases q1
        obtain ⟨c, B1, B', B2, c1, c2, c3, c4⟩ := sub_rep k3 q2
        have hq := hi.run env en (S ++ J) As he.more nd
        rw [hv] at hq
        obtain ⟨kd, S', As', B, w1, w2, w3, w4, w5, w6⟩ := hq
        obtain ⟨_, J', rfl⟩ := w6 rfl
        have hk : kd = .int k := vwd_eq (re_val w3) (by simp)
        subst hk
        refine ⟨J ++ J', d0, c, ?_, h2, PathR.snoc h3 c1⟩
        obtain ⟨n, ds, rfl, e2, e3⟩ := c1
        have hn : (S ++ J ++ J')[n]? = some (.lst ds) := by rw [List.append_assoc, get_app (List.getElem?_eq_some_iff.mp e2).1]; exact e2
        have hlen : ms.length = ds.length := by
          unfold Rep at k3
          obtain ⟨n', ds', B0, z1, z2, z3, z4⟩ := k3
          cases z1
          rw [e2] at z2; cases z2
          exact z3.length
        rw [fOp_eq, h1, bind_ok, w1, bind_ok]
        have : gIx (.ref n) (.int k) (S ++ J ++ J') = some (c, S ++ J ++ J') := by
          unfold gIx
          simp only [sqOf, lsOf, hn]
          have : L2.atI ds k = some c := by unfold L2.atI; rw [← hlen, hj]; exact e3
          simp only [this]
        rw [this, ofO_some, List.append_assoc]
      · cases hP
    · cases hP
  · cases hP
end VF

namespace VF
open PySem L2 PF
variable [Tab]
/-! ### defs and calls -/
inductive Rn where
  | ok (m : M) (os : List (Option M)) | ex (C : Addr) (os : List (Option M)) | no
abbrev VN := List M → Rn
/-- behind the call the arguments at the places I are these -/
def OutR (S : So) (I : List Nat) (ds : List D) (os : List (Option M)) (Bs : List (List Nat)) : Prop := ∀ j ∈ I, ∀ m, os[j]? = some (some m) → ∃ d B, ds[j]? = some d ∧ Bs[j]? = some B ∧ Rep S m d B
structure NSim (q : Bool) (I : List Nat) (F : FN) (V : VN) : Prop where
  run : ∀ (ms : List M) (ds : List D) (S : So) (B : List Nat), Reps S ms ds B → Nd B → match V ms with
    | .ok m os => ∃ d S' Bs B', F ds S = .ok d S' ∧ OutR S' I ds os Bs ∧ Rep S' m d B' ∧ Nd (Bs.flatten ++ B') ∧ Fr S B S' (Bs.flatten ++ B') ∧ Mo q S S'
    | .ex C os => ∃ S' Bs, F ds S = .ex C S' ∧ OutR S' I ds os Bs ∧ Nd Bs.flatten ∧ Fr S B S' Bs.flatten ∧ Mo q S S'
    | .no => True
/-- an argument: a value, or a place that is lent -/
inductive Ar where
  | tm (m : M) | pl (i : Nat) (p : List Stp)
inductive Cr where
  | ok (m : M) (os : List (Option M)) (e : Env) | ex (C : Addr) (os : List (Option M)) (e : Env) | no
def Env.up (env : Env) (i : Nat) (x : Option M) : Env := Env.kill ⟨env.o.set i x, env.b⟩ i
def backO (os : List (Option M)) (j : Nat) (k : M → Cr) : Cr := match os[j]? with
  | some (some m) => k m
  | _ => .no
def callG (V : VN) : Nat → List Ar → List M → Env → Cr
  | _, [], acc, e => match V acc with
    | .ok m os => .ok m os e
    | .ex C os => .ex C os e
    | .no => .no
  | j, .tm m :: r, acc, e => callG V (j + 1) r (acc ++ [m]) e
  | j, .pl i p :: r, acc, e => match e.o[i]? with
    | some (some m0) => match m0.at p with
      | some m' => match callG V (j + 1) r (acc ++ [m']) (e.up i none) with
        | .ok m os e1 => backO os j fun m2 => .ok m os (e1.up i (some (m0.wrs p m2)))
        | .ex C os e1 => backO os j fun m2 => .ex C os (e1.up i (some (m0.wrs p m2)))
        | .no => .no
      | none => .no
    | _ => .no
def ArR (en : En) (S : So) : List Ar → List D → List Nat → Prop
  | [], ds, B => ds = [] ∧ B = []
  | .tm m :: r, ds, B => ∃ d t B1 B2, ds = d :: t ∧ Rep S m d B1 ∧ ArR en S r t B2 ∧ B = B1 ++ B2
  | .pl i p :: r, ds, B => ∃ d t d0, ds = d :: t ∧ en[i]? = some (some d0) ∧ PathR S p d0 d ∧ ArR en S r t B
theorem ArR.lt {en : En} {S : So} : ∀ {its : List Ar} {ds : List D} {B : List Nat}, ArR en S its ds B → ∀ n ∈ B, n < S.length
  | [], ds, B, h => by obtain ⟨_, rfl⟩ := h; intro n hn; cases hn
  | .tm m :: r, ds, B, h => by
    obtain ⟨d, t, B1, B2, rfl, h2, h3, rfl⟩ := h
    intro n hn
    rcases List.mem_append.mp hn with hn | hn
    · exact h2.lt n hn
    · exact ArR.lt h3 n hn
  | .pl i p :: r, ds, B, h => by
    obtain ⟨d, t, d0, rfl, h2, h3, h4⟩ := h
    exact ArR.lt h4
theorem ArR.frame {en : En} {S S' : So} {s : Bool} (k : s = true → ∃ J, S' = S ++ J) : ∀ {its : List Ar} {ds : List D} {B : List Nat}, ArR en S its ds B → (s = true ∨ ∀ i p, Ar.pl i p ∈ its → p = []) → (∀ n ∈ B, S'[n]? = S[n]?) → ArR en S' its ds B
  | [], ds, B, h, c, f => h
  | .tm m :: r, ds, B, h, c, f => by
    obtain ⟨d, t, B1, B2, rfl, h2, h3, rfl⟩ := h
    exact ⟨d, t, B1, B2, rfl, h2.frame (fun n hn => f n (by simp [hn])), ArR.frame k h3 (c.imp id fun q i p z => q i p (by simp [z])) (fun n hn => f n (by simp [hn])), rfl⟩
  | .pl i p :: r, ds, B, h, c, f => by
    obtain ⟨d, t, d0, rfl, h2, h3, h4⟩ := h
    refine ⟨d, t, d0, rfl, h2, ?_, ArR.frame k h4 (c.imp id fun q i p z => q i p (by simp [z])) f⟩
    rcases c with c | c
    · obtain ⟨J, rfl⟩ := k c; exact h3.more
    · rw [c i p (by simp)] at h3 ⊢; exact h3
theorem EnvR.up {S : So} {env : Env} {en : En} {As : List (List Nat)} {x : Option M} {e : Option D} {A : List Nat} (i : Nat) (h : EnvR S env en As) (q : en[i]? = some e) (k : SlotR S x e A) : EnvR S (env.up i x) en (As.set i A) := h.upd i q k
/-- what stands behind a call; j arguments are still held -/
def CallP (q : Bool) (I : List Nat) (F : FN) (en : En) (all : List D) (S : So) (A : List Nat) (j : Nat) (c : Cr) : Prop := match c with
  | .ok m os e' => ∃ (d : D) (S' : So) (As' Bs : List (List Nat)) (B' : List Nat), F all S = .ok d S' ∧ EnvR S' e' en As' ∧ (∀ k ∈ I, k < j → ∀ m, os[k]? = some (some m) → ∃ d B, all[k]? = some d ∧ Bs[k]? = some B ∧ Rep S' m d B) ∧ Rep S' m d B' ∧ Nd (As'.flatten ++ (Bs.flatten ++ B')) ∧ Fr S A S' (As'.flatten ++ (Bs.flatten ++ B')) ∧ Mo q S S'
  | .ex C os e' => ∃ (S' : So) (As' Bs : List (List Nat)), F all S = .ex C S' ∧ EnvR S' e' en As' ∧ (∀ k ∈ I, k < j → ∀ m, os[k]? = some (some m) → ∃ d B, all[k]? = some d ∧ Bs[k]? = some B ∧ Rep S' m d B) ∧ Nd (As'.flatten ++ Bs.flatten) ∧ Fr S A S' (As'.flatten ++ Bs.flatten) ∧ Mo q S S'
  | .no => True
theorem at_back {q : Bool} {I : List Nat} {F : FN} {en : En} {all : List D} {S : So} {A : List Nat} {j : Nat} {os : List (Option M)} {n : Nat} {k : M → Cr} (h : ∀ m, os[n]? = some (some m) → CallP q I F en all S A j (k m)) : CallP q I F en all S A j (backO os n k) := by
  unfold backO
  split
  · exact h _ (by assumption)
  · exact trivial
theorem callG_run {qq : Bool} {I : List Nat} {F : FN} {V : VN} {en : En} (hF : NSim qq I F V) : ∀ (its : List Ar) (acc : List M) (ds accd : List D) (S : So) (e : Env) (As : List (List Nat)) (B Bacc : List Nat), EnvR S e en As → ArR en S its ds B → Reps S acc accd Bacc → Nd (As.flatten ++ (Bacc ++ B)) →
    (∀ (k : Nat) i p, its[k]? = some (.pl i p) → acc.length + k ∈ I) → CallP qq I F en (accd ++ ds) S (As.flatten ++ (Bacc ++ B)) acc.length (callG V acc.length its acc e)
  | [], acc, ds, accd, S, e, As, B, Bacc, he, ha, hr, nd, hI => by
    obtain ⟨rfl, rfl⟩ := ha
    have q := hF.run acc accd S Bacc hr (nd.le fun a => by simp only [List.count_append]; omega)
    have hAs : ∀ n ∈ As.flatten, n < S.length ∧ n ∉ Bacc := fun n hn => ⟨he.lt n hn, fun z => (by rw [List.append_nil] at nd; exact nd.not hn z)⟩
    unfold callG
    rw [List.append_nil]
    cases hv : V acc with
    | no => exact trivial
    | ok m os =>
      rw [hv] at q
      obtain ⟨d, S', Bs, B', e1, e2, e3, e4, e5, emo⟩ := q
      refine ⟨d, S', As, Bs, B', e1, he.frame (fun n hn => e5.same n (hAs n hn).1 (hAs n hn).2), fun j hj _ => e2 j hj, e3, ?_, ⟨e5.len, fun n hl hn => e5.same n hl (fun z => hn (by simp [z])), fun n hn => ?_⟩, emo⟩
      · refine Nd.app (nd.le fun a => by simp only [List.count_append]; omega) e4 fun n hn z => ?_
        rcases e5.new n z with q | q
        · exact (hAs n hn).2 q
        · have := (hAs n hn).1; omega
      · rcases List.mem_append.mp hn with hn | hn
        · exact .inl (by simp only [List.mem_append]; exact .inl hn)
        · exact (e5.new n hn).elim (fun z => .inl (by simp [z])) .inr
    | ex C os =>
      rw [hv] at q
      obtain ⟨S', Bs, e1, e2, e4, e5, emo⟩ := q
      refine ⟨S', As, Bs, e1, he.frame (fun n hn => e5.same n (hAs n hn).1 (hAs n hn).2), fun j hj _ => e2 j hj, ?_, ⟨e5.len, fun n hl hn => e5.same n hl (fun z => hn (by simp [z])), fun n hn => ?_⟩, emo⟩
      · refine Nd.app (nd.le fun a => by simp only [List.count_append]; omega) e4 fun n hn z => ?_
        rcases e5.new n z with q | q
        · exact (hAs n hn).2 q
        · have := (hAs n hn).1; omega
      · rcases List.mem_append.mp hn with hn | hn
        · exact .inl (by simp only [List.mem_append]; exact .inl hn)
        · exact (e5.new n hn).elim (fun z => .inl (by simp [z])) .inr
  | .tm m :: r, acc, ds, accd, S, e, As, B, Bacc, he, ha, hr, nd, hI => by
    obtain ⟨d, t, B1, B2, rfl, h2, h3, rfl⟩ := ha
    have hl : (acc ++ [m]).length = acc.length + 1 := by simp
    have ih := callG_run hF r (acc ++ [m]) t (accd ++ [d]) S e As B2 (Bacc ++ B1) he h3 (by have := hr.append (Reps.cons h2 Reps.nil); simpa using this) (nd.le fun a => by simp only [List.count_append]; omega)
      (fun k i p hk => by have := hI (k + 1) i p (by simpa using hk); rw [hl]; rw [show acc.length + 1 + k = acc.length + (k + 1) by omega]; exact this)
    show CallP _ _ _ _ _ _ _ _ (callG V (acc.length + 1) r (acc ++ [m]) e)
    rw [hl] at ih
    have ea : accd ++ [d] ++ t = accd ++ d :: t := by simp
    rw [ea] at ih
    have eb : As.flatten ++ (Bacc ++ B1 ++ B2) = As.flatten ++ (Bacc ++ (B1 ++ B2)) := by simp
    rw [eb] at ih
    cases hc : callG V (acc.length + 1) r (acc ++ [m]) e with
    | no => exact trivial
    | ok m' os e' =>
      rw [hc] at ih
      obtain ⟨d', S', As', Bs, B', e1, e2, e3, e4, e5, e6, emo⟩ := ih
      exact ⟨d', S', As', Bs, B', e1, e2, fun j hj hlt => e3 j hj (by omega), e4, e5, e6, emo⟩
    | ex C os e' =>
      rw [hc] at ih
      obtain ⟨S', As', Bs, e1, e2, e3, e5, e6, emo⟩ := ih
      exact ⟨S', As', Bs, e1, e2, fun j hj hlt => e3 j hj (by omega), e5, e6, emo⟩
  | .pl i p :: r, acc, ds, accd, S, e, As, B, Bacc, he, ha, hr, nd, hI => by
    obtain ⟨d, t, d0, rfl, h2, h3, h4⟩ := ha
    unfold callG
    cases hm0 : e.o[i]? with
    | none => exact trivial
    | some x =>
    cases x with
    | none => exact trivial
    | some m0 =>
      dsimp only
      cases hm' : m0.at p with
      | none => exact trivial
      | some m' =>
        obtain ⟨d0', A, g1, g2, g3⟩ := at_var he hm0
        rw [h2] at g1; cases g1
        obtain ⟨e', A1, A', A2, k1, rfl, k3, k4⟩ := at_rep g3 hm'
        have := h3.det k1
        subst this
        have hl : (acc ++ [m']).length = acc.length + 1 := by simp
        have hcnt : ∀ a, (As.set i []).flatten.count a + (A1 ++ A' ++ A2).count a = As.flatten.count a := fun a => by
          have := count_set As i _ [] a g2
          simpa using this
        have nd0 : Nd ((A1 ++ A2) ++ ((As.set i []).flatten ++ ((Bacc ++ A') ++ B))) := nd.le fun a => by
          have := hcnt a
          simp only [List.count_append] at this ⊢
          omega
        have ih := callG_run hF r (acc ++ [m']) t (accd ++ [d]) S (e.up i none) (As.set i []) B (Bacc ++ A') (he.up i h2 (show SlotR S none (some d0) [] from rfl)) h4 (by have := hr.append (Reps.cons k3 Reps.nil); simpa using this) nd0.right
          (fun k i p hk => by have := hI (k + 1) i p (by simpa using hk); rw [hl]; rw [show acc.length + 1 + k = acc.length + (k + 1) by omega]; exact this)
        rw [hl] at ih
        have ea : accd ++ [d] ++ t = accd ++ d :: t := by simp
        rw [ea] at ih
        have hj : acc.length ∈ I := by simpa using hI 0 i p rfl
        have hdj : (accd ++ d :: t)[acc.length]? = some d := by rw [hr.length]; simp
        have hA12 : ∀ n ∈ A1 ++ A2, n < S.length := fun n hn => g3.lt n (by simp only [List.mem_append] at hn ⊢; rcases hn with hn | hn <;> simp [hn])
        have hsub : ∀ n ∈ (As.set i []).flatten ++ ((Bacc ++ A') ++ B), n ∈ As.flatten ++ (Bacc ++ B) := fun n hn => by
          have hA : ∀ n ∈ A', n ∈ As.flatten := fun n hn => List.mem_flatten.mpr ⟨_, List.mem_of_getElem? g2, by simp [hn]⟩
          simp only [List.mem_append] at hn ⊢
          rcases hn with hn | (hn | hn) | hn
          · exact .inl ((mem_set_flat hn).elim id (by intro z; cases z))
          · exact .inr (.inl hn)
          · exact .inl (hA n hn)
          · exact .inr (.inr hn)
        have hA12s : ∀ n ∈ A1 ++ A2, n ∈ As.flatten := fun n hn => List.mem_flatten.mpr ⟨_, List.mem_of_getElem? g2, by simp only [List.mem_append] at hn ⊢; rcases hn with hn | hn <;> simp [hn]⟩
        dsimp only
        cases hc : callG V (acc.length + 1) r (acc ++ [m']) (e.up i none) with
        | no => exact trivial
        | ok m os e1 =>
          rw [hc] at ih
          obtain ⟨dr, S', As', Bs, B', e1', e2, e3, e4, e5, e6, emo⟩ := ih
          refine at_back fun m2 hm2 => ?_
          obtain ⟨dd, Bj, w1, w2, w3⟩ := e3 acc.length hj (by omega) m2 hm2
          rw [hdj] at w1; cases w1
          have hfr : ∀ n ∈ A1 ++ A2, S'[n]? = S[n]? := fun n hn => e6.same n (hA12 n hn) (nd0.not hn)
          have hrep := k4 S' m2 Bj hfr w3
          have hBs : ∀ a, (Bs.set acc.length []).flatten.count a + Bj.count a = Bs.flatten.count a := fun a => by
            have := count_set Bs acc.length _ [] a w2
            simpa using this
          have hdis : Nd ((A1 ++ A2) ++ (As'.flatten ++ (Bs.flatten ++ B'))) := nd0.left.app e5 fun n hn z => by
            rcases e6.new n z with q | q
            · exact nd0.not hn q
            · have := hA12 n hn; omega
          refine ⟨dr, S', As'.set i (A1 ++ Bj ++ A2), Bs.set acc.length [], B', e1', e2.up i h2 ⟨d0, rfl, hrep⟩, fun j hj' hlt mm hmm => ?_, e4, hdis.le fun a => ?_, ⟨e6.len, fun n hl' hn => e6.same n hl' (fun z => hn (hsub n z)), fun n hn => ?_⟩, emo⟩
          · obtain ⟨dd, BB, z1, z2, z3⟩ := e3 j hj' (by omega) mm hmm
            exact ⟨dd, BB, z1, by rw [List.getElem?_set_ne (by omega)]; exact z2, z3⟩
          · have h1 := count_set_le As' i (A1 ++ Bj ++ A2) a
            have h2 := hBs a
            simp only [List.count_append] at h1 h2 ⊢
            omega
          · have hin : n ∈ (A1 ++ A2) ++ (As'.flatten ++ (Bs.flatten ++ B')) := by
              simp only [List.mem_append] at hn ⊢
              rcases hn with hn | hn | hn
              · rcases mem_set_flat hn with q | q
                · exact .inr (.inl q)
                · simp only [List.mem_append] at q
                  rcases q with (q | q) | q
                  · exact .inl (.inl q)
                  · exact .inr (.inr (.inl (List.mem_flatten.mpr ⟨Bj, List.mem_of_getElem? w2, q⟩)))
                  · exact .inl (.inr q)
              · exact .inr (.inr (.inl ((mem_set_flat hn).elim id (by intro z; cases z))))
              · exact .inr (.inr (.inr hn))
            rcases List.mem_append.mp hin with q | q
            · exact .inl (by simp only [List.mem_append]; exact .inl (hA12s n q))
            · exact (e6.new n q).elim (fun z => .inl (hsub n z)) .inr
        | ex C os e1 =>
          rw [hc] at ih
          obtain ⟨S', As', Bs, e1', e2, e3, e5, e6, emo⟩ := ih
          refine at_back fun m2 hm2 => ?_
          obtain ⟨dd, Bj, w1, w2, w3⟩ := e3 acc.length hj (by omega) m2 hm2
          rw [hdj] at w1; cases w1
          have hfr : ∀ n ∈ A1 ++ A2, S'[n]? = S[n]? := fun n hn => e6.same n (hA12 n hn) (nd0.not hn)
          have hrep := k4 S' m2 Bj hfr w3
          have hBs : ∀ a, (Bs.set acc.length []).flatten.count a + Bj.count a = Bs.flatten.count a := fun a => by
            have := count_set Bs acc.length _ [] a w2
            simpa using this
          have hdis : Nd ((A1 ++ A2) ++ (As'.flatten ++ Bs.flatten)) := nd0.left.app e5 fun n hn z => by
            rcases e6.new n z with q | q
            · exact nd0.not hn q
            · have := hA12 n hn; omega
          refine ⟨S', As'.set i (A1 ++ Bj ++ A2), Bs.set acc.length [], e1', e2.up i h2 ⟨d0, rfl, hrep⟩, fun j hj' hlt mm hmm => ?_, hdis.le fun a => ?_, ⟨e6.len, fun n hl' hn => e6.same n hl' (fun z => hn (hsub n z)), fun n hn => ?_⟩, emo⟩
          · obtain ⟨dd, BB, z1, z2, z3⟩ := e3 j hj' (by omega) mm hmm
            exact ⟨dd, BB, z1, by rw [List.getElem?_set_ne (by omega)]; exact z2, z3⟩
          · have h1 := count_set_le As' i (A1 ++ Bj ++ A2) a
            have h2 := hBs a
            simp only [List.count_append] at h1 h2 ⊢
            omega
          · have hin : n ∈ (A1 ++ A2) ++ (As'.flatten ++ Bs.flatten) := by
              simp only [List.mem_append] at hn ⊢
              rcases hn with hn | hn
              · rcases mem_set_flat hn with q | q
                · exact .inr (.inl q)
                · simp only [List.mem_append] at q
                  rcases q with (q | q) | q
                  · exact .inl (.inl q)
                  · exact .inr (.inr (List.mem_flatten.mpr ⟨Bj, List.mem_of_getElem? w2, q⟩))
                  · exact .inl (.inr q)
              · exact .inr (.inr ((mem_set_flat hn).elim id (by intro z; cases z)))
            rcases List.mem_append.mp hin with q | q
            · exact .inl (by simp only [List.mem_append]; exact .inl (hA12s n q))
            · exact (e6.new n q).elim (fun z => .inl (hsub n z)) .inr
end VF

namespace VF
open PySem L2 PF
variable [Tab]
theorem rep_val0 {S : So} {x d : D} {A : List Nat} (h : Rep S (.val x) d A) : d = x ∧ nr x = true ∧ A = [] := by unfold Rep at h; exact h
def Ar.isPl : Ar → Bool
  | .pl _ _ => true
  | _ => false
def ArK (ks : List Bool) (en : En) (S : So) (its : List Ar) (ds : List D) (B : List Nat) : Prop := ArR en S its ds B ∧ its.map Ar.isPl = ks
structure SimI (p : Bool) (ks : List Bool) (f : FA) (w : Env → Rv (List Ar)) : Prop where
  run : ∀ (env : Env) (en : En) (S : So) (As : List (List Nat)), EnvR S env en As → Nd As.flatten → SimAt (ArK ks en) p S env en As.flatten (f en S) (w env)
/-- held while the rest is reckoned -/
theorem SimAt.hold {α1 β1 α2 β2 : Type} {R1 : So → α1 → β1 → List Nat → Prop} {R2 : So → α2 → β2 → List Nat → Prop} {p : Bool} {r2 : Rs β2} {rv : Rv α2} (st : Stab R1 p) (il : InL R1)
    {a : α1} {b : β1} {env : Env} {en : En} {S : So} {As : List (List Nat)} {B : List Nat} (q : SimAt R2 p S env en As.flatten r2 rv) (r : R1 S a b B) (nd : Nd (As.flatten ++ B)) :
    SimAt (RPair R1 R2 a b) p S env en (As.flatten ++ B) r2 rv := by
  cases rv with
  | no => exact trivial
  | ex C env' =>
    obtain ⟨S', As', e1, e2, e3, e4, e5⟩ := q
    exact ⟨S', As', e1, e2, e3, ⟨e4.len, fun n hl hn => e4.same n hl (fun z => hn (by simp [z])), fun n hn => (e4.new n hn).elim (fun z => .inl (by simp [z])) .inr⟩, e5⟩
  | ok a2 env2 =>
    obtain ⟨b2, S2, As2, B2, g1, g2, g3, g4, g5, g6⟩ := q
    have hB : ∀ n ∈ B, n < S.length ∧ n ∉ As.flatten := fun n hn => ⟨il S a b B r n hn, fun z => nd.not z hn⟩
    refine ⟨b2, S2, As2, B ++ B2, g1, g2, ⟨B, B2, rfl, st S S2 a b B r (fun n hn => g5.same n (hB n hn).1 (hB n hn).2) (fun z => (g6 z).2), g3⟩, ?_, ⟨g5.len, fun n hl hn => g5.same n hl (fun z => hn (by simp [z])), fun n hn => ?_⟩, g6⟩
    · have : Nd ((As2.flatten ++ B2) ++ B) := g4.app nd.right fun n hn => by
        intro z
        rcases g5.new n hn with q | q
        · exact (hB n z).2 q
        · have := (hB n z).1; omega
      exact this.le fun a => by simp only [List.count_append]; omega
    · simp only [List.mem_append] at hn
      rcases hn with hn | hn | hn
      · exact (g5.new n (by simp [hn])).elim (fun z => .inl (by simp [z])) .inr
      · exact .inl (by simp [hn])
      · exact (g5.new n (by simp [hn])).elim (fun z => .inl (by simp [z])) .inr
def wNil : Env → Rv (List Ar) := fun env => .ok [] env
def wTm (v : VE) (w : Env → Rv (List Ar)) : Env → Rv (List Ar) := fun env => (v env).bind fun m e => (w e).bind fun its e2 => .ok (.tm m :: its) e2
def wPl (P : Pl) (w : Env → Rv (List Ar)) : Env → Rv (List Ar) := fun env => match P env with
  | some (i, p) => match env.look i p with
    | some _ => (w env).bind fun its e2 => .ok (.pl i p :: its) e2
    | none => .no
  | none => .no
theorem si_nil : SimI true [] fNil wNil := ⟨fun env en S As he nd => by
  have := ok_dropG (R := ArK [] en) (p := true) (B := []) (a := []) (b := []) (en := en) he (by simpa using nd) ⟨⟨rfl, rfl⟩, rfl⟩
  rw [List.append_nil] at this
  exact this⟩
theorem at_same {α β : Type} {R : So → α → β → List Nat → Prop} {p : Bool} {S : So} {env : Env} {en : En} {As : List (List Nat)} {B B' : List Nat} {a : α} {b : β} (he : EnvR S env en As) (nd : Nd (As.flatten ++ B)) (r : R S a b B') (hc : ∀ a, B'.count a ≤ B.count a) : SimAt R p S env en (As.flatten ++ B) (.ok b S) (.ok a env) := by
  have hm : ∀ n ∈ B', n ∈ B := fun n hn => List.count_pos_iff.mp (Nat.lt_of_lt_of_le (List.count_pos_iff.mpr hn) (hc n))
  have := SimAt.ok (R := R) (p := p) (J := []) (en := en) (B := B') he nd (fun n hn => by simp [hn]) (by rw [List.append_nil]; exact r) (nd.le fun a => by have := hc a; simp only [List.count_append]; omega) (fun n hn => .inl (by simp [hm n hn]))
  rw [List.append_nil] at this
  exact this
theorem si_tm {pa pb : Bool} {ks : List Bool} {fa : FE} {va : VE} {gs : FA} {w : Env → Rv (List Ar)} (ha : SimE pa true fa va) (hb : SimI pb ks gs w) : SimI (pa && pb) (false :: ks) (fCons fa gs) (wTm va w) := ⟨fun env en S As he nd => by
  have q := ha.run env en S As he nd
  have := SimAt.map (p2 := pb) (R2 := ArK (false :: ks) en) q (k := fun d S1 => (gs en S1).bind fun ds S2 => .ok (d :: ds) S2) (kv := fun m e => (w e).bind fun its e2 => .ok (.tm m :: its) e2) fun m d env1 S1 As1 B1 he1 r1 nd1 => by
    have q2 := SimAt.map (p2 := true) (R2 := ArK (false :: ks) en) (SimAt.hold (stab_rep pb) inl_re (hb.run env1 en S1 As1 he1 nd1.left) r1 nd1) (k := fun ds S2 => .ok (d :: ds) S2) (kv := fun its e2 => .ok (.tm m :: its) e2) fun its ds env2 S2 As2 B2 he2 r2 nd2 => by
      obtain ⟨B3, B4, rfl, r3, r4, r5⟩ := r2
      exact at_same he2 nd2 ⟨⟨d, ds, B3, B4, rfl, r3, r4, rfl⟩, by simp [r5, Ar.isPl]⟩ fun a => Nat.le_refl _
    rw [Bool.and_true] at q2
    exact q2
  exact this⟩
/-- the place of an argument -/
def PlR (s : Bool) (en : En) (i : Nat) (p : List Stp) (S : So) (_ : Unit) (d : D) (B : List Nat) : Prop := B = [] ∧ (s = true → p = []) ∧ ∃ d0, en[i]? = some (some d0) ∧ PathR S p d0 d
theorem stab_pl {s pb : Bool} {en : En} {i : Nat} {p : List Stp} (h : (s || pb) = true) : Stab (PlR s en i p) pb := fun S S' a d B r f k => by
  obtain ⟨rfl, hs, d0, h1, h2⟩ := r
  refine ⟨rfl, hs, d0, h1, ?_⟩
  cases s with
  | true => rw [hs rfl] at h2 ⊢; exact h2
  | false =>
    simp at h
    obtain ⟨J, rfl⟩ := k h
    exact h2.more
theorem inl_pl {s : Bool} {en : En} {i : Nat} {p : List Stp} : InL (PlR s en i p) := fun S a d B r n hn => by rw [r.1] at hn; cases hn
theorem si_pl {s pb : Bool} {ks : List Bool} {fo : FE} {P : Pl} {gs : FA} {w : Env → Rv (List Ar)} (hp : SimP s fo P) (hb : SimI pb ks gs w) (hx : (s || pb) = true := by rfl) : SimI pb (true :: ks) (fCons fo gs) (wPl P w) := ⟨fun env en S As he nd => by
  unfold wPl
  cases hP : P env with
  | none => exact trivial
  | some q =>
    obtain ⟨i, p⟩ := q
    dsimp only
    cases hl : env.look i p with
    | none => exact trivial
    | some m =>
      obtain ⟨J, d0, d, h1, h2, h3⟩ := hp.run env en S As i p m he nd hP hl
      dsimp only
      have q0 := hb.run env en (S ++ J) As he.more nd
      have r0 : PlR s en i p (S ++ J) () d [] := ⟨rfl, fun z => hp.nm z env i p hP, d0, h2, h3.more⟩
      have q1 := SimAt.hold (stab_pl hx) inl_pl q0 r0 (by simpa using nd)
      have q2 := SimAt.map (p2 := true) (R2 := ArK (true :: ks) en) q1 (k := fun ds S2 => .ok (d :: ds) S2) (kv := fun its e2 => .ok (.pl i p :: its) e2) fun its ds env2 S2 As2 B2 he2 r2 nd2 => by
        obtain ⟨B3, B4, rfl, ⟨rfl, _, e0, r3, r6⟩, r4, r5⟩ := r2
        exact at_same he2 nd2 ⟨⟨d, ds, e0, rfl, r3, r6, r4⟩, by simp [r5, Ar.isPl]⟩ fun a => by simp
      rw [Bool.and_true, List.append_nil] at q2
      have hf : fCons fo gs en S = (gs en (S ++ J)).bind fun ds S2 => .ok (d :: ds) S2 := by simp [fCons, h1]
      rw [hf]
      cases hw : (w env).bind fun its e2 => Rv.ok (Ar.pl i p :: its) e2 with
      | no => exact trivial
      | ex C e =>
        rw [hw] at q2
        obtain ⟨S', As', e1, e2, e3, e4, e5⟩ := q2
        refine ⟨S', As', e1, e2, e3, Fr.more.trans e4, fun z => ?_⟩
        obtain ⟨rfl, J', rfl⟩ := e5 z
        exact ⟨rfl, J ++ J', by simp⟩
      | ok a e =>
        rw [hw] at q2
        obtain ⟨b, S', As', B, e1, e2, e3, e4, e5, e6⟩ := q2
        refine ⟨b, S', As', B, e1, e2, e3, e4, Fr.more.trans e5, fun z => ?_⟩
        obtain ⟨rfl, J', rfl⟩ := e6 z
        exact ⟨rfl, J ++ J', by simp⟩⟩
def crV : Cr → Rv M
  | .ok m _ e => .ok m e
  | .ex C _ e => .ex C e
  | .no => .no
def vCall (V : VN) (w : Env → Rv (List Ar)) : VE := fun env => (w env).bind fun its e => crV (callG V 0 its [] e)
/-- the call itself -/
theorem call_at {qq : Bool} {I : List Nat} {F : FN} {V : VN} (hF : NSim qq I F V) {ks : List Bool} (hk : ∀ k, ks[k]? = some true → k ∈ I) {its : List Ar} {ds : List D} {env : Env} {en : En} {S : So} {As : List (List Nat)} {B : List Nat} (he : EnvR S env en As) (r : ArK ks en S its ds B) (nd : Nd (As.flatten ++ B)) :
    SimAt (RE true) false S env en (As.flatten ++ B) (F ds S) (crV (callG V 0 its [] env)) := by
  have q := callG_run hF its [] ds [] S env As B [] he r.1 Reps.nil (by simpa using nd) (fun k i p h => by
    simp only [List.length_nil, Nat.zero_add]
    refine hk k ?_
    rw [← r.2, List.getElem?_map, h]; rfl)
  simp only [List.length_nil, List.nil_append] at q
  cases hc : callG V 0 its [] env with
  | no => exact trivial
  | ok m os e =>
    rw [hc] at q
    obtain ⟨d, S', As', Bs, B', e1, e2, e3, e4, e5, e6, _⟩ := q
    exact ⟨d, S', As', B', e1, e2, e4, e5.le fun a => by simp only [List.count_append]; omega, e6.sub fun n hn => by simp only [List.mem_append] at hn ⊢; rcases hn with hn | hn <;> simp [hn], fun z => by cases z⟩
  | ex C os e =>
    rw [hc] at q
    obtain ⟨S', As', Bs, e1, e2, e3, e5, e6, _⟩ := q
    exact ⟨S', As', e1, e2, e5.left, e6.sub fun n hn => by simp [hn], fun z => by cases z⟩
theorem SimAt.false {α β : Type} {R : So → α → β → List Nat → Prop} {p : Bool} {S : So} {env : Env} {en : En} {A : List Nat} {r : Rs β} {rv : Rv α} (h : SimAt R p S env en A r rv) : SimAt R false S env en A r rv := h.imp fun z => by cases z
theorem NSim.len {qq : Bool} {I : List Nat} {F : FN} {V : VN} {n : Nat} (h : NSim qq I F V) (hn : ∀ ms, ms.length ≠ n → V ms = .no) : NSim qq I (F.len n) V := ⟨fun ms ds S B r nd => by
  by_cases c : ms.length = n
  · have := h.run ms ds S B r nd
    unfold FN.len
    rw [if_pos (by rw [← r.length]; exact c)]
    exact this
  · rw [hn ms c]; exact trivial⟩
theorem se_call {qq : Bool} {I : List Nat} {F : FN} {V : VN} {n : Nat} {p : Bool} {ks : List Bool} {fa : FA} {w : Env → Rv (List Ar)} (hF : NSim qq I F V) (hn : ∀ ms, ms.length ≠ n → V ms = .no) (hw : SimI p ks fa w) (hk : ∀ k, ks[k]? = some true → k ∈ I) : SimE false true (fCall (F.len n) fa) (vCall V w) := ⟨fun env en S As he nd => by
  have := SimAt.map (p2 := false) (R2 := RE true) (hw.run env en S As he nd) (k := fun ds S1 => F.len n ds S1) (kv := fun its e => crV (callG V 0 its [] e)) fun its ds env1 S1 As1 B1 he1 r1 nd1 => call_at (hF.len hn) hk he1 r1 nd1
  rw [Bool.and_false] at this
  exact this⟩
/-- a call with plain data alone: nothing that stands is changed -/
def rnV (r : Rn) (e : Env) : Rv M := match r with
  | .ok m _ => .ok m e
  | .ex C _ => .ex C e
  | .no => .no
def vCallV (V : VN) (g : VA) : VE := fun env => (g env).bind fun ms e => match valsM ms with
  | some _ => rnV (V ms) e
  | none => .no
theorem fr_nil {S S' : So} {A : List Nat} (h : Fr S [] S' A) : ∃ J, S' = S ++ J := by
  refine ⟨S'.drop S.length, List.ext_getElem? fun n => ?_⟩
  by_cases c : n < S.length
  · rw [List.getElem?_append_left c]; exact h.same n c (by simp)
  · rw [List.getElem?_append_right (by omega), List.getElem?_drop, show S.length + (n - S.length) = n by omega]
theorem se_callV {qq : Bool} {I : List Nat} {F : FN} {V : VN} {n : Nat} {p : Bool} {fa : FA} {w : VA} (hF : NSim qq I F V) (hn : ∀ ms, ms.length ≠ n → V ms = .no) (hw : SimA p fa w) : SimE p true (fCall (F.len n) fa) (vCallV V w) := by
  have := SimR.bind (R2 := RE true) (p2 := true) (k := fun ds en S1 => F.len n ds S1) (kv := fun ms e => match valsM ms with
    | some _ => rnV (V ms) e
    | none => .no) hw fun ms ds env en S As B he r nd => by
    refine at_vals fun es hm => ?_
    have r' := r
    rw [valsM_eq hm] at r'
    obtain ⟨e1, h4, e2⟩ := Reps.vals_of r'
    subst e2
    have q := (hF.len hn).run ms ds S [] r Nd.nil
    have hnew : ∀ {S' : So} {A : List Nat}, Fr S [] S' A → ∀ n ∈ A, S.length ≤ n := fun h n hn => (h.new n hn).elim (fun z => by cases z) id
    cases hv : V ms with
    | no => exact trivial
    | ok m os =>
      rw [hv] at q
      obtain ⟨d, S', Bs, B', g1, g2, g3, g4, g5, _⟩ := q
      obtain ⟨J, rfl⟩ := fr_nil g5
      rw [g1]
      refine SimAt.ok (B := B') he nd (fun n hn => by simp [hn]) g3 ?_ (fun n hn => .inr (hnew g5 n (by simp [hn])))
      exact nd.left.app g4.right fun n hn z => by
        have := hnew g5 n (by simp [z])
        have := he.lt n hn
        omega
    | ex C os =>
      rw [hv] at q
      obtain ⟨S', Bs, g1, g2, g4, g5, _⟩ := q
      obtain ⟨J, rfl⟩ := fr_nil g5
      rw [g1]
      exact ⟨S ++ J, As, rfl, he.more, nd.left, ⟨by simp, fun n hl _ => get_app hl, fun n hn => .inl (by simp [hn])⟩, fun _ => ⟨rfl, J, rfl⟩⟩
  rw [Bool.and_true] at this
  exact this
/-- a call of a def that changes nothing: what is lent stays as it is -/
def vCallR (V : VN) (w : Env → Rv (List Ar)) : VE := fun env => (w env).bind fun its e => match callG V 0 its [] e with
  | .ok (.val d) _ _ => .ok (.val d) e
  | .ex C _ _ => .ex C e
  | _ => .no
theorem se_callR {I : List Nat} {F : FN} {V : VN} {n : Nat} {p : Bool} {ks : List Bool} {fa : FA} {w : Env → Rv (List Ar)} (hF : NSim true I F V) (hn : ∀ ms, ms.length ≠ n → V ms = .no) (hw : SimI p ks fa w) (hk : ∀ k, ks[k]? = some true → k ∈ I) : SimE p true (fCall (F.len n) fa) (vCallR V w) := ⟨fun env en S As he nd => by
  have := SimAt.map (p2 := true) (R2 := RE true) (hw.run env en S As he nd) (k := fun ds S1 => F.len n ds S1) (kv := fun its e => match callG V 0 its [] e with
    | .ok (.val d) _ _ => .ok (.val d) e
    | .ex C _ _ => .ex C e
    | _ => .no) fun its ds env1 S1 As1 B1 he1 r1 nd1 => by
    have q := callG_run (hF.len hn) its [] ds [] S1 env1 As1 B1 [] he1 r1.1 Reps.nil (by simpa using nd1) (fun k i p h => by
      simp only [List.length_nil, Nat.zero_add]
      refine hk k ?_
      rw [← r1.2, List.getElem?_map, h]; rfl)
    simp only [List.length_nil, List.nil_append] at q
    cases hc : callG V 0 its [] env1 with
    | no => exact trivial
    | ok m os e =>
      rw [hc] at q
      obtain ⟨d, S', As', Bs, B', e1, e2, e3, e4, e5, e6, emo⟩ := q
      obtain ⟨J, rfl⟩ := emo rfl
      cases m with
      | val x =>
        obtain ⟨rfl, h2, rfl⟩ := rep_val0 e4
        rw [e1]
        exact SimAt.ok (B := []) he1 nd1 (fun n hn => by simp [hn]) (show Rep _ _ _ _ from Rep.val h2) (by simpa using nd1.left) (by simp)
      | _ => exact trivial
    | ex C os e =>
      rw [hc] at q
      obtain ⟨S', As', Bs, e1, e2, e3, e5, e6, emo⟩ := q
      obtain ⟨J, rfl⟩ := emo rfl
      rw [e1]
      exact ⟨S1 ++ J, As1, rfl, he1.more, nd1.left, ⟨by simp, fun n hl _ => get_app hl, fun n hn => .inl (by simp [hn])⟩, fun _ => ⟨rfl, J, rfl⟩⟩
  rw [Bool.and_true] at this
  exact this⟩
/-! ### methods of lists that change them -/
def mutF (g : GM) : FN := fun ds S => match ds with
  | d :: es => ofO (g d es S)
  | [] => .no
def tyM : M → String
  | .lst _ => "list"
  | .dic _ _ => "dict"
  | _ => ""
def vMut (T : String) (V : VN) (P : Pl) (wa : VA) : VE := fun env => match P env with
  | some (i, p) => match env.look i p with
    | some m => if tyM m = T then (wa env).bind fun ms e => crV (callG V 0 (.pl i p :: ms.map Ar.tm) [] e) else .no
    | none => .no
  | none => .no
theorem ar_tms {en : En} {S : So} : ∀ {ms : List M} {ds : List D} {B : List Nat}, Reps S ms ds B → ArR en S (ms.map Ar.tm) ds B
  | [], ds, B, h => by unfold Reps at h; exact h
  | m :: ms, ds, B, h => by
    unfold Reps at h
    obtain ⟨d, r, B1, B2, rfl, h2, h3, rfl⟩ := h
    exact ⟨d, r, B1, B2, rfl, h2, ar_tms h3, rfl⟩
theorem isTy_m {S : So} {m : M} {d : D} {A : List Nat} {T : String} (h : Rep S m d A) (hT : tyM m = T) (hne : T ≠ "") : isTy S T d = true := by
  subst hT
  cases m with
  | val x => exact absurd rfl hne
  | ins C ns ms => exact absurd rfl hne
  | lst ms =>
    unfold Rep at h
    obtain ⟨n, ds, B, rfl, h2, _⟩ := h
    simp [isTy, tyM, h2]
  | dic ks ms =>
    unfold Rep at h
    obtain ⟨n, ds, B, rfl, h2, _⟩ := h
    simp [isTy, tyM, h2]
theorem se_mut {T : String} {g : GM} {V : VN} {s pb qq : Bool} {fo : FE} {P : Pl} {fa : FA} {wa : VA} (hF : NSim qq [0] (mutF g) V) (hp : SimP s fo P) (ha : SimA pb fa wa) (hx : (s || pb) = true := by rfl) (hne : T ≠ "" := by decide) : SimE false true (fBM T g fo fa) (vMut T V P wa) := ⟨fun env en S As he nd => by
  unfold vMut
  cases hP : P env with
  | none => exact trivial
  | some q =>
    obtain ⟨i, p⟩ := q
    dsimp only
    cases hl : env.look i p with
    | none => exact trivial
    | some m =>
      dsimp only
      refine at_if fun hT => ?_
      obtain ⟨J, d0, d, h1, h2, h3⟩ := hp.run env en S As i p m he nd hP hl
      obtain ⟨m0, d0', A, g1, g2, g3, g4, g5⟩ := look_rep he hl
      rw [h2] at g2; cases g2
      obtain ⟨e, A1, A', A2, k1, k2, k3, k4⟩ := at_rep g4 g5
      have := h3.det k1
      subst this
      have hty := isTy_m (k3.more (J := J)) hT hne
      have q0 := ha.run env en (S ++ J) As he.more nd
      have r0 : PlR s en i p (S ++ J) () d [] := ⟨rfl, fun z => hp.nm z env i p hP, d0, h2, h3.more⟩
      have q1 := SimAt.hold (stab_pl hx) inl_pl q0 r0 (by simpa using nd)
      have q2 := SimAt.map (p2 := false) (R2 := RE true) q1 (k := fun ds S2 => ofO (g d ds S2)) (kv := fun ms e => crV (callG V 0 (.pl i p :: ms.map Ar.tm) [] e)) fun ms ds env2 S2 As2 B2 he2 r2 nd2 => by
        obtain ⟨B3, B4, rfl, ⟨rfl, _, e0, r3, r6⟩, r4⟩ := r2
        exact call_at (I := [0]) (ks := true :: (ms.map fun _ => false)) hF (fun k hk => by
          cases k with
          | zero => simp
          | succ k => simp at hk) (ds := d :: ds) he2 ⟨⟨d, ds, e0, rfl, r3, r6, ar_tms r4⟩, by simp [Ar.isPl]⟩ nd2
      have hf : fBM T g fo fa en S = (fa en (S ++ J)).bind fun ds S2 => ofO (g d ds S2) := by simp [fBM, h1, hty]
      rw [hf]
      rw [Bool.and_false, List.append_nil] at q2
      cases hw : (wa env).bind fun ms e => crV (callG V 0 (.pl i p :: ms.map Ar.tm) [] e) with
      | no => exact trivial
      | ex C e =>
        rw [hw] at q2
        obtain ⟨S', As', e1, e2, e3, e4, e5⟩ := q2
        exact ⟨S', As', e1, e2, e3, Fr.more.trans e4, fun z => by cases z⟩
      | ok a e =>
        rw [hw] at q2
        obtain ⟨b, S', As', B, e1, e2, e3, e4, e5, e6⟩ := q2
        exact ⟨b, S', As', B, e1, e2, e3, e4, Fr.more.trans e5, fun z => by cases z⟩⟩
end VF

namespace VF
open PySem L2 PF
variable [Tab]
section muts
variable {S : So}
theorem reps1 {m : M} {ds : List D} {B : List Nat} (h : Reps S [m] ds B) : ∃ d, ds = [d] ∧ Rep S m d B := by
  unfold Reps at h
  obtain ⟨d, r, B1, B2, rfl, h2, h3, rfl⟩ := h
  unfold Reps at h3
  obtain ⟨rfl, rfl⟩ := h3
  exact ⟨d, rfl, by simpa using h2⟩
theorem reps2 {m m' : M} {ds : List D} {B : List Nat} (h : Reps S [m, m'] ds B) : ∃ d d' B1 B2, ds = [d, d'] ∧ B = B1 ++ B2 ∧ Rep S m d B1 ∧ Rep S m' d' B2 := by
  unfold Reps at h
  obtain ⟨d, r, B1, B2, rfl, h2, h3, rfl⟩ := h
  obtain ⟨d', rfl, h4⟩ := reps1 h3
  exact ⟨d, d', B1, B2, rfl, rfl, h2, h4⟩
theorem reps3 {m m' m'' : M} {ds : List D} {B : List Nat} (h : Reps S [m, m', m''] ds B) : ∃ d d' d'' B1 B2 B3, ds = [d, d', d''] ∧ B = B1 ++ (B2 ++ B3) ∧ Rep S m d B1 ∧ Rep S m' d' B2 ∧ Rep S m'' d'' B3 := by
  unfold Reps at h
  obtain ⟨d, r, B1, B2, rfl, h2, h3, rfl⟩ := h
  obtain ⟨d', d'', B3, B4, rfl, rfl, h4, h5⟩ := reps2 h3
  exact ⟨d, d', d'', B1, B3, B4, rfl, rfl, h2, h4, h5⟩
theorem set_frame {n : Nat} {o : O} {B : List Nat} (h : n ∉ B) : ∀ k ∈ B, (S.set n o)[k]? = S[k]? := fun k hk => List.getElem?_set_ne (fun q => h (by rw [q]; exact hk))
theorem mem_nd {n : Nat} {B : List Nat} (h : Nd (n :: B)) : n ∉ B := fun q => by
  have := h n
  rw [List.count_cons_self] at this
  have := List.count_pos_iff.mpr q
  omega
/-- a list changes in place -/
theorem mut_out {F : FN} {n : Nat} {xs : List M} {ds es : List D} {B' Br B : List Nat} {r : M} {rd : D} (hn : n < S.length) (h : Reps S xs ds B') (hr : Rep S r rd Br) (hB : n ∈ B) (nd : Nd B) (hc : ∀ a, (n :: (B' ++ Br)).count a ≤ B.count a)
    (hF : F (.ref n :: es) S = .ok rd (S.set n (.lst ds))) : ∃ d S' Bs B', F (.ref n :: es) S = .ok d S' ∧ OutR S' [0] (.ref n :: es) [some (.lst xs)] Bs ∧ Rep S' r d B' ∧ Nd (Bs.flatten ++ B') ∧ Fr S B S' (Bs.flatten ++ B') ∧ Mo false S S' := by
  have nd' : Nd (n :: (B' ++ Br)) := nd.le hc
  have hni := mem_nd nd'
  refine ⟨rd, S.set n (.lst ds), [n :: B'], Br, hF, fun j hj m hm => ?_, hr.frame (set_frame (fun q => hni (by simp [q]))), ?_, ⟨by simp, fun k hl hk => List.getElem?_set_ne (fun q => hk (by rw [← q]; exact hB)), fun k hk => .inl ?_⟩, Mo.no⟩
  · simp at hj; subst hj
    simp at hm; subst hm
    refine ⟨.ref n, n :: B', rfl, rfl, ?_⟩
    unfold Rep
    exact ⟨n, ds, B', rfl, by rw [List.getElem?_set_self hn], h.frame (set_frame (fun q => hni (by simp [q]))), rfl⟩
  · simpa using nd'
  · have hk' : k ∈ n :: (B' ++ Br) := by simpa using hk
    exact List.count_pos_iff.mp (Nat.lt_of_lt_of_le (List.count_pos_iff.mpr hk') (hc k))
theorem rep_lst {xs : List M} {d : D} {A : List Nat} (h : Rep S (.lst xs) d A) : ∃ n ds B, d = .ref n ∧ S[n]? = some (.lst ds) ∧ Reps S xs ds B ∧ A = n :: B := by unfold Rep at h; exact h
theorem rep_val {x d : D} {A : List Nat} (h : Rep S (.val x) d A) : d = x ∧ nr x = true ∧ A = [] := by unfold Rep at h; exact h
theorem atL_ref {n : Nat} {ds : List D} (h : S[n]? = some (.lst ds)) : atL S (.ref n) = some (n, ds) := by simp [atL, h]
end muts
def V_append : VN := fun ms => match ms with
  | [.lst xs, y] => if xs.length < 1000000 then .ok (.val .non) [some (.lst (xs ++ [y]))] else .no
  | _ => .no
theorem n_append : NSim false [0] (mutF gAppend) V_append := ⟨fun ms ds S B r nd => by
  unfold V_append
  split
  · rename_i h
    split at h
    · rename_i xs y
      split at h
      · rename_i hl
        cases h
        obtain ⟨d, d', B1, B2, rfl, rfl, h1, h2⟩ := reps2 r
        obtain ⟨n, es, B3, rfl, h3, h4, rfl⟩ := rep_lst h1
        refine mut_out (List.getElem?_eq_some_iff.mp h3).1 (h4.append (Reps.cons h2 Reps.nil)) (Rep.val rfl) (by simp) nd (fun a => by simp [List.count_cons, List.count_append]) ?_
        simp only [mutF, gAppend, atL_ref h3]
        rw [if_pos (by rw [← h4.length]; exact lim_lt hl)]
        rfl
      · cases h
    · cases h
  · rename_i h
    split at h
    · split at h <;> cases h
    · cases h
  · exact trivial⟩
def V_pop : VN := fun ms => match ms with
  | [.lst xs] => match xs[xs.length - 1]? with
    | some y => .ok y [some (.lst xs.dropLast)]
    | none => .no
  | _ => .no
theorem Reps.take {S : So} : ∀ {ms : List M} {ds : List D} {A : List Nat} (k : Nat), Reps S ms ds A → ∃ A1 A2, A = A1 ++ A2 ∧ Reps S (ms.take k) (ds.take k) A1 ∧ Reps S (ms.drop k) (ds.drop k) A2
  | ms, ds, A, 0, h => ⟨[], A, rfl, by simpa using Reps.nil, by simpa using h⟩
  | [], ds, A, k + 1, h => by
    unfold Reps at h
    obtain ⟨rfl, rfl⟩ := h
    exact ⟨[], [], rfl, Reps.nil, Reps.nil⟩
  | m :: ms, ds, A, k + 1, h => by
    unfold Reps at h
    obtain ⟨d, r, B1, B2, rfl, h2, h3, rfl⟩ := h
    obtain ⟨A1, A2, rfl, h4, h5⟩ := Reps.take k h3
    exact ⟨B1 ++ A1, A2, by simp, by simpa using Reps.cons h2 h4, by simpa using h5⟩
/-- one taken out -/
theorem Reps.erase {S : So} {ms : List M} {ds : List D} {A : List Nat} {j : Nat} {m : M} (h : Reps S ms ds A) (e : ms[j]? = some m) : ∃ d A1 A' A2, ds[j]? = some d ∧ A = A1 ++ A' ++ A2 ∧ Rep S m d A' ∧ Reps S (ms.eraseIdx j) (ds.eraseIdx j) (A1 ++ A2) := by
  obtain ⟨A1, A2, rfl, h1, h2⟩ := h.take j
  have hj := (List.getElem?_eq_some_iff.mp e).1
  have hjd : j < ds.length := by rw [← h.length]; exact hj
  rw [List.drop_eq_getElem_cons hj, List.drop_eq_getElem_cons hjd] at h2
  unfold Reps at h2
  obtain ⟨d, r, B1, B2, q, h3, h4, rfl⟩ := h2
  simp only [List.cons.injEq] at q
  obtain ⟨rfl, rfl⟩ := q
  rw [List.getElem?_eq_getElem hj] at e
  cases e
  refine ⟨ds[j], A1, B1, B2, List.getElem?_eq_getElem hjd, by simp, h3, ?_⟩
  rw [List.eraseIdx_eq_take_drop_succ, List.eraseIdx_eq_take_drop_succ]
  exact h1.append h4
theorem n_pop : NSim false [0] (mutF gPop) V_pop := ⟨fun ms ds S B r nd => by
  unfold V_pop
  split
  · rename_i h
    split at h
    · rename_i xs
      split at h
      · rename_i y hy
        cases h
        obtain ⟨d, rfl, h1⟩ := reps1 r
        obtain ⟨n, es, B3, rfl, h3, h4, rfl⟩ := rep_lst h1
        obtain ⟨dy, A1, A', A2, g1, rfl, g3, g4⟩ := h4.erase hy
        have hl := h4.length
        refine mut_out (ds := es.dropLast) (List.getElem?_eq_some_iff.mp h3).1 (xs := xs.dropLast) (B' := A1 ++ A2) ?_ g3 (by simp) nd (fun a => by simp only [List.count_cons, List.count_append]; omega) ?_
        · have e1 : xs.eraseIdx (xs.length - 1) = xs.dropLast := List.eraseIdx_length_sub_one
          have e2 : es.eraseIdx (es.length - 1) = es.dropLast := List.eraseIdx_length_sub_one
          rw [hl, e2] at g4
          rw [← hl, e1] at g4
          exact g4
        · rw [hl] at g1
          simp only [mutF, gPop, atL_ref h3, g1]
          rfl
      · cases h
    · cases h
  · rename_i h
    split at h
    · split at h <;> cases h
    · cases h
  · exact trivial⟩
def V_popAt : VN := fun ms => match ms with
  | [.lst xs, .val (.int i)] => if -1000000000 ≤ i ∧ i ≤ 1000000000 then (match ixN xs.length i with
    | some j => match xs[j]? with
      | some y => .ok y [some (.lst (xs.eraseIdx j))]
      | none => .no
    | none => .no) else .no
  | _ => .no
theorem n_popAt : NSim false [0] (mutF gPopAt) V_popAt := ⟨fun ms ds S B r nd => by
  unfold V_popAt
  split
  · rename_i h
    split at h
    · rename_i xs i
      split at h
      · rename_i hi
        split at h
        · rename_i j hj
          split at h
          · rename_i y hy
            cases h
            obtain ⟨d, d', B1, B2, rfl, rfl, h1, h2⟩ := reps2 r
            obtain ⟨rfl, _, rfl⟩ := rep_val h2
            obtain ⟨n, es, B3, rfl, h3, h4, rfl⟩ := rep_lst h1
            obtain ⟨dy, A1, A', A2, g1, rfl, g3, g4⟩ := h4.erase hy
            have hl := h4.length
            refine mut_out (List.getElem?_eq_some_iff.mp h3).1 g4 g3 (by simp) nd (fun a => by simp only [List.count_cons, List.count_append, List.count_nil]; omega) ?_
            simp only [mutF, gPopAt, atL_ref h3]
            rw [if_pos ⟨by omega, by omega⟩, ← hl, hj]
            simp only [g1]
            rfl
          · cases h
        · cases h
      · cases h
    · cases h
  · rename_i h
    split at h
    · split at h
      · split at h
        · split at h <;> cases h
        · cases h
      · cases h
    · cases h
  · exact trivial⟩
def V_extend : VN := fun ms => match ms with
  | [.lst xs, .val (.lst ds)] => if xs.length + ds.length ≤ 1000000 then .ok (.val .non) [some (.lst (xs ++ ds.map M.val))] else .no
  | [.lst xs, .lst ys] => if xs.length + ys.length ≤ 1000000 then .ok (.val .non) [some (.lst (xs ++ ys))] else .no
  | _ => .no
theorem n_extend : NSim false [0] (mutF gExtend) V_extend := ⟨fun ms ds S B r nd => by
  unfold V_extend
  split
  · rename_i h
    split at h
    · rename_i xs zs
      split at h
      · rename_i hl
        cases h
        obtain ⟨d, d', B1, B2, rfl, rfl, h1, h2⟩ := reps2 r
        obtain ⟨rfl, hz, rfl⟩ := rep_val h2
        obtain ⟨n, es, B3, rfl, h3, h4, rfl⟩ := rep_lst h1
        refine mut_out (List.getElem?_eq_some_iff.mp h3).1 (h4.append (Reps.vals (by simpa [nr] using hz))) (Rep.val rfl) (by simp) nd (fun a => by simp [List.count_cons, List.count_append]) ?_
        simp only [mutF, gExtend, atL_ref h3, lsOf]
        rw [if_pos (by rw [← h4.length]; exact lim_le hl)]
        rfl
      · cases h
    · rename_i xs ys
      split at h
      · rename_i hl
        cases h
        obtain ⟨d, d', B1, B2, rfl, rfl, h1, h2⟩ := reps2 r
        obtain ⟨n, es, B3, rfl, h3, h4, rfl⟩ := rep_lst h1
        obtain ⟨n', es', B3', rfl, h3', h4', rfl⟩ := rep_lst h2
        refine mut_out (List.getElem?_eq_some_iff.mp h3).1 (h4.append h4') (Rep.val rfl) (by simp) nd (fun a => by simp only [List.count_cons, List.count_append, List.count_nil]; omega) ?_
        simp only [mutF, gExtend, atL_ref h3, lsOf, h3']
        rw [if_pos (by rw [← h4.length, ← h4'.length]; exact lim_le hl)]
        rfl
      · cases h
    · cases h
  · rename_i h
    split at h
    · split at h <;> cases h
    · split at h <;> cases h
    · cases h
  · exact trivial⟩
end VF

namespace VF
open PySem L2 PF
variable [Tab]
theorem slot_some {S : So} {m : M} {d : D} {A : List Nat} (h : Rep S m d A) : SlotR S (some m) (some d) A := ⟨d, rfl, h⟩
/-! ### statements -/
/-- the names I hold what they held -/
def Kp (I : List Nat) (en en' : En) : Prop := ∀ i ∈ I, en'[i]? = en[i]?
theorem Kp.refl {I : List Nat} {en : En} : Kp I en en := fun _ _ => rfl
theorem Kp.trans {I : List Nat} {a b c : En} (h : Kp I a b) (k : Kp I b c) : Kp I a c := fun i hi => (k i hi).trans (h i hi)
def StP (q : Bool) (I : List Nat) (S : So) (en : En) (A : List Nat) (r : Fl) (rv : Vl) : Prop := match rv with
  | .nx e' => ∃ en' S' As', r = .nx en' S' ∧ EnvR S' e' en' As' ∧ Nd As'.flatten ∧ Fr S A S' As'.flatten ∧ Kp I en en' ∧ Mo q S S'
  | .bk e' => ∃ en' S' As', r = .bk en' S' ∧ EnvR S' e' en' As' ∧ Nd As'.flatten ∧ Fr S A S' As'.flatten ∧ Kp I en en' ∧ Mo q S S'
  | .ct e' => ∃ en' S' As', r = .ct en' S' ∧ EnvR S' e' en' As' ∧ Nd As'.flatten ∧ Fr S A S' As'.flatten ∧ Kp I en en' ∧ Mo q S S'
  | .ex C e' => ∃ en' S' As', r = .ex C en' S' ∧ EnvR S' e' en' As' ∧ Nd As'.flatten ∧ Fr S A S' As'.flatten ∧ Kp I en en' ∧ Mo q S S'
  | .rt m e' => ∃ d en' S' As' B, r = .rt d S' ∧ EnvR S' e' en' As' ∧ Rep S' m d B ∧ Nd (As'.flatten ++ B) ∧ Fr S A S' (As'.flatten ++ B) ∧ Kp I en en' ∧ Mo q S S'
  | .no => True
structure SimS (q : Bool) (I : List Nat) (f : FS) (v : VS) : Prop where
  run : ∀ (env : Env) (en : En) (S : So) (As : List (List Nat)), EnvR S env en As → Nd As.flatten → StP q I S en As.flatten (f en S) (v env)
theorem StP.later {q q1 q2 : Bool} {I : List Nat} {S S1 : So} {en en1 : En} {A A1 : List Nat} {r : Fl} {rv : Vl} (h : StP q2 I S1 en1 A1 r rv) (f : Fr S A S1 A1) (k : Kp I en en1) (m : Mo q1 S S1) (h1 : q = true → q1 = true) (h2 : q = true → q2 = true) : StP q I S en A r rv := by
  cases rv with
  | no => exact trivial
  | rt v e => obtain ⟨d, en', S', As', B, g1, g2, g3, g4, g5, g6, g7⟩ := h; exact ⟨d, en', S', As', B, g1, g2, g3, g4, f.trans g5, k.trans g6, m.trans g7 h1 h2⟩
  | nx e => obtain ⟨en', S', As', g1, g2, g3, g4, g5, g6⟩ := h; exact ⟨en', S', As', g1, g2, g3, f.trans g4, k.trans g5, m.trans g6 h1 h2⟩
  | bk e => obtain ⟨en', S', As', g1, g2, g3, g4, g5, g6⟩ := h; exact ⟨en', S', As', g1, g2, g3, f.trans g4, k.trans g5, m.trans g6 h1 h2⟩
  | ct e => obtain ⟨en', S', As', g1, g2, g3, g4, g5, g6⟩ := h; exact ⟨en', S', As', g1, g2, g3, f.trans g4, k.trans g5, m.trans g6 h1 h2⟩
  | ex C e => obtain ⟨en', S', As', g1, g2, g3, g4, g5, g6⟩ := h; exact ⟨en', S', As', g1, g2, g3, f.trans g4, k.trans g5, m.trans g6 h1 h2⟩
theorem StP.imp {q q2 : Bool} {I : List Nat} {S : So} {en : En} {A : List Nat} {r : Fl} {rv : Vl} (h : StP q2 I S en A r rv) (k : q = true → q2 = true) : StP q I S en A r rv := h.later (q1 := true) Fr.refl Kp.refl Mo.refl (fun _ => rfl) k
def vthen {α : Type} (r : Rv α) (k : α → Env → Vl) : Vl := match r with
  | .ok a e => k a e
  | .ex C e => .ex C e
  | .no => .no
theorem SimAt.then {α β : Type} {R : So → α → β → List Nat → Prop} {p q : Bool} {I : List Nat} {S : So} {env : Env} {en : En} {A : List Nat} {r : Rs β} {rv : Rv α} (h : SimAt R p S env en A r rv) {k : β → So → Fl} {kv : α → Env → Vl}
    (h2 : ∀ (a : α) (b : β) (env1 : Env) (S1 : So) (As : List (List Nat)) (B : List Nat), EnvR S1 env1 en As → R S1 a b B → Nd (As.flatten ++ B) → StP q I S1 en (As.flatten ++ B) (k b S1) (kv a env1)) : StP (p && q) I S en A (fthen en r k) (vthen rv kv) := by
  cases rv with
  | no => exact trivial
  | ex C e =>
    obtain ⟨S', As', e1, e2, e3, e4, e5⟩ := h
    rw [e1]
    exact ⟨en, S', As', rfl, e2, e3, e4, Kp.refl, fun z => (e5 (by simp at z; exact z.1)).2⟩
  | ok a e =>
    obtain ⟨b, S', As', B, e1, e2, e3, e4, e5, e6⟩ := h
    rw [e1]
    exact StP.later (q1 := p) (h2 a b e S' As' B e2 e3 e4) e5 Kp.refl (fun z => (e6 z).2) (fun z => by simp at z; exact z.1) (fun z => by simp at z; exact z.2)
theorem StP.wide {q : Bool} {I : List Nat} {S : So} {en : En} {A A' : List Nat} {r : Fl} {rv : Vl} (h : StP q I S en A r rv) (k : ∀ n ∈ A, n ∈ A') : StP q I S en A' r rv := h.later (q1 := true) ⟨Nat.le_refl _, fun _ _ _ => rfl, fun n hn => .inl (k n hn)⟩ Kp.refl Mo.refl (fun _ => rfl) id
section stmts
variable {I : List Nat} {p x pc pa q q1 q2 : Bool} {f g : FS} {v w : VS} {fe : FE} {ve : VE} {ft : FT} {vt : VT}
def vNext : VS := fun env => .nx env
theorem ss_next : SimS true I fNext vNext := ⟨fun env en S As he nd => ⟨en, S, As, rfl, he, nd, Fr.refl, Kp.refl, Mo.refl⟩⟩
def vSeq (f g : VS) : VS := fun env => match f env with
  | .nx e => g e
  | o => o
theorem ss_seq (h : SimS q1 I f v) (k : SimS q2 I g w) : SimS (q1 && q2) I (fSeq f g) (vSeq v w) := ⟨fun env en S As he nd => by
  have q := (h.run env en S As he nd)
  have z1 : ∀ {b c : Bool}, (b && c) = true → b = true := fun z => by simp at z; exact z.1
  have z2 : ∀ {b c : Bool}, (b && c) = true → c = true := fun z => by simp at z; exact z.2
  unfold vSeq fSeq
  cases e : v env with
  | nx e1 =>
    rw [e] at q
    obtain ⟨en', S', As', h1, h2, h3, h4, h5, h6⟩ := q
    rw [h1]
    exact StP.later (k.run e1 en' S' As' h2 h3) h4 h5 h6 z1 z2
  | rt m e1 =>
    rw [e] at q
    have q' : StP (q1 && q2) _ _ _ _ _ (Vl.rt m e1) := StP.imp q z1
    obtain ⟨d, en', S', As', B, h1, _⟩ := q
    rw [h1] at q' ⊢
    exact q'
  | bk e1 => rw [e] at q; have q' : StP (q1 && q2) _ _ _ _ _ (Vl.bk e1) := StP.imp q z1; obtain ⟨en', S', As', h1, _⟩ := q; rw [h1] at q' ⊢; exact q'
  | ct e1 => rw [e] at q; have q' : StP (q1 && q2) _ _ _ _ _ (Vl.ct e1) := StP.imp q z1; obtain ⟨en', S', As', h1, _⟩ := q; rw [h1] at q' ⊢; exact q'
  | ex C e1 => rw [e] at q; have q' : StP (q1 && q2) _ _ _ _ _ (Vl.ex C e1) := StP.imp q z1; obtain ⟨en', S', As', h1, _⟩ := q; rw [h1] at q' ⊢; exact q'
  | no => exact trivial⟩
def vExpr (f : VE) : VS := fun env => vthen (f env) fun _ e => .nx e
theorem ss_expr (h : SimE p x fe ve) : SimS p I (fExpr fe) (vExpr ve) := ⟨fun env en S As he nd => by
  have := SimAt.then (q := true) (I := I) (k := fun _ S1 => Fl.nx en S1) (kv := fun _ e => Vl.nx e) (h.run env en S As he nd) fun a b env1 S1 As1 B he1 r1 nd1 => ⟨en, S1, As1, rfl, he1, nd1.left, Fr.refl.sub (fun n hn => by simp [hn]), Kp.refl, Mo.refl⟩
  rw [Bool.and_true] at this
  exact this⟩
def vRet (f : VE) : VS := fun env => vthen (f env) fun m e => .rt m e
theorem ss_ret (h : SimE p true fe ve) : SimS p I (fRet fe) (vRet ve) := ⟨fun env en S As he nd => by
  have := SimAt.then (q := true) (I := I) (k := fun d S1 => Fl.rt d S1) (kv := fun m e => Vl.rt m e) (h.run env en S As he nd) fun a b env1 S1 As1 B he1 r1 nd1 => ⟨b, en, S1, As1, B, rfl, he1, r1, nd1, Fr.refl, Kp.refl, Mo.refl⟩
  rw [Bool.and_true] at this
  exact this⟩
def vRetN : VS := fun env => .rt (.val .non) env
theorem ss_retN : SimS true I fRetN vRetN := ⟨fun env en S As he nd => ⟨.non, en, S, As, [], rfl, he, Rep.val rfl, by simpa using nd, by simpa using Fr.refl, Kp.refl, Mo.refl⟩⟩
def vBrk : VS := fun env => .bk env
def vCnt : VS := fun env => .ct env
theorem ss_brk : SimS true I fBrk vBrk := ⟨fun env en S As he nd => ⟨en, S, As, rfl, he, nd, Fr.refl, Kp.refl, Mo.refl⟩⟩
theorem ss_cnt : SimS true I fCnt vCnt := ⟨fun env en S As he nd => ⟨en, S, As, rfl, he, nd, Fr.refl, Kp.refl, Mo.refl⟩⟩
def vRaise (C : Addr) : VS := fun env => .ex C env
theorem ss_raise {C : Addr} : SimS true I (fRaise C) (vRaise C) := ⟨fun env en S As he nd => ⟨en, S, As, rfl, he, nd, Fr.refl, Kp.refl, Mo.refl⟩⟩
def vNever : VS := fun _ => .no
theorem ss_never : SimS true I f vNever := ⟨fun env en S As he nd => trivial⟩
def vIte (c : VT) (f g : VS) : VS := fun env => vthen (c env) fun k e => if k = true then f e else g e
theorem ss_ite (hc : SimT pc ft vt) (h : SimS q1 I f v) (k : SimS q2 I g w) : SimS (pc && (q1 && q2)) I (fIte ft f g) (vIte vt v w) := ⟨fun env en S As he nd => SimAt.then (hc.run env en S As he nd) fun a b env1 S1 As1 B he1 r1 nd1 => by
  obtain ⟨rfl, rfl⟩ := r1
  cases b with
  | true => exact ((h.run env1 en S1 As1 he1 nd1.left).imp fun z => by simp at z; exact z.1).wide fun n hn => by simp [hn]
  | false => exact ((k.run env1 en S1 As1 he1 nd1.left).imp fun z => by simp at z; exact z.2).wide fun n hn => by simp [hn]⟩
/-! targets -/
abbrev VG := M → Env → Option Env
def GP (q : Bool) (I : List Nat) (S : So) (en : En) (A : List Nat) (r : Option (En × So)) (rv : Option Env) : Prop := match rv with
  | some e' => ∃ en' S' As', r = some (en', S') ∧ EnvR S' e' en' As' ∧ Nd As'.flatten ∧ Fr S A S' As'.flatten ∧ Kp I en en' ∧ Mo q S S'
  | none => True
structure SimG (q : Bool) (I : List Nat) (g : FG) (w : VG) : Prop where
  run : ∀ (m : M) (d : D) (B : List Nat) (env : Env) (en : En) (S : So) (As : List (List Nat)), EnvR S env en As → Rep S m d B → Nd (As.flatten ++ B) → GP q I S en (As.flatten ++ B) (g d en S) (w m env)
def tName (i : Nat) : VG := fun m env => some (env.put i (some m))
theorem sg_name {i : Nat} (h : i ∉ I) : SimG true I (gtName i) (tName i) := ⟨fun m d B env en S As he r nd => by
  refine ⟨en.set i (some d), S, As.set i B, rfl, he.put i ⟨d, rfl, r⟩, nd.le fun a => ?_, ⟨Nat.le_refl _, fun _ _ _ => rfl, fun n hn => .inl ?_⟩, fun j hj => ?_, Mo.refl⟩
  · have := count_set_le As i B a
    rw [List.count_append]; exact this
  · simp only [List.mem_append]
    exact mem_set_flat hn
  · rw [List.getElem?_set_ne (fun q => h (by rw [q]; exact hj))]⟩
def vlG (r : Option Env) : Vl := match r with
  | some e => .nx e
  | none => .no
def vAsg (f : VE) (g : VG) : VS := fun env => vthen (f env) fun m e => vlG (g m e)
theorem gp_st {S : So} {en : En} {A : List Nat} {r : Option (En × So)} {rv : Option Env} (h : GP q I S en A r rv) : StP q I S en A (flG r) (vlG rv) := by
  cases rv with
  | none => exact trivial
  | some e =>
    obtain ⟨en', S', As', e1, e2⟩ := h
    rw [e1]
    exact ⟨en', S', As', rfl, e2⟩
theorem ss_asg {gt : FG} {wt : VG} (h : SimE p true fe ve) (k : SimG q I gt wt) : SimS (p && q) I (fAsg fe gt) (vAsg ve wt) := ⟨fun env en S As he nd => SimAt.then (h.run env en S As he nd) fun a b env1 S1 As1 B he1 r1 nd1 => gp_st (k.run a b B env1 en S1 As1 he1 r1 nd1)⟩
abbrev VGs := List D → Env → Option Env
structure SimGs (q : Bool) (I : List Nat) (g : FGs) (w : VGs) : Prop where
  run : ∀ (ds : List D) (env : Env) (en : En) (S : So) (As : List (List Nat)), EnvR S env en As → nrs ds = true → Nd As.flatten → GP q I S en As.flatten (g ds en S) (w ds env)
def tNil : VGs := fun ds env => match ds with
  | [] => some env
  | _ => none
def tCons (g : VG) (h : VGs) : VGs := fun ds env => match ds with
  | d :: r => match g (.val d) env with
    | some e => h r e
    | none => none
  | [] => none
theorem sgs_nil : SimGs true I gtNil tNil := ⟨fun ds env en S As he hn nd => by
  cases ds with
  | nil => exact ⟨en, S, As, rfl, he, nd, Fr.refl, Kp.refl, Mo.refl⟩
  | cons d r => exact trivial⟩
theorem sgs_cons {gt : FG} {wt : VG} {gs : FGs} {ws : VGs} (h : SimG q1 I gt wt) (k : SimGs q2 I gs ws) : SimGs (q1 && q2) I (gtCons gt gs) (tCons wt ws) := ⟨fun ds env en S As he hn nd => by
  cases ds with
  | nil => exact trivial
  | cons d r =>
    simp only [nrs, Bool.and_eq_true] at hn
    have q := h.run (.val d) d [] env en S As he (Rep.val hn.1) (by simpa using nd)
    unfold tCons gtCons
    dsimp only
    cases e : wt (.val d) env with
    | none => exact trivial
    | some e1 =>
      rw [e] at q
      obtain ⟨en', S', As', h1, h2, h3, h4, h5, h6⟩ := q
      rw [h1]
      rw [List.append_nil] at h4
      have q2 := k.run r e1 en' S' As' h2 hn.2 h3
      dsimp only
      cases e' : ws r e1 with
      | none => exact trivial
      | some e2 =>
        rw [e'] at q2
        obtain ⟨en2, S2, As2, g1, g2, g3, g4, g5, g6⟩ := q2
        exact ⟨en2, S2, As2, g1, g2, g3, h4.trans g4, h5.trans g5, h6.trans g6 (fun z => by simp at z; exact z.1) (fun z => by simp at z; exact z.2)⟩⟩
def tTup (n : Nat) (g : VGs) : VG := fun m env => match m with
  | .val (.tup ds) => if ds.length = n then g ds env else none
  | _ => none
theorem sg_tup {n : Nat} {gs : FGs} {ws : VGs} (k : SimGs q I gs ws) : SimG q I (gtTup n gs) (tTup n ws) := ⟨fun m d B env en S As he r nd => by
  unfold tTup
  cases m with
  | val y =>
    cases y with
    | tup ds =>
      dsimp only
      by_cases hl : ds.length = n
      · rw [if_pos hl]
        obtain ⟨rfl, h2, rfl⟩ := rep_val r
        have q := k.run ds env en S As he (by simpa [nr] using h2) nd.left
        simp only [gtTup_eq, if_pos hl, List.append_nil]
        exact q
      · rw [if_neg hl]; exact trivial
    | _ => exact trivial
  | _ => exact trivial⟩
def tPair (i j : Nat) : VG := fun m env => match m with
  | .val (.tup [a, b]) => some ((env.put i (some (.val a))).put j (some (.val b)))
  | _ => none
theorem sg_pair {i j : Nat} (h : i ∉ I) (k : j ∉ I) : SimG true I (gtPair i j) (tPair i j) := ⟨fun m d B env en S As he r nd => by
  have q := (sg_tup (n := 2) (sgs_cons (sg_name h) (sgs_cons (sg_name k) sgs_nil))).run m d B env en S As he r nd
  unfold tPair
  cases m with
  | val y =>
    cases y with
    | tup ds =>
      match ds with
      | [a, b] =>
        obtain ⟨rfl, h2, rfl⟩ := rep_val r
        exact q
      | [] => exact trivial
      | [_] => exact trivial
      | _ :: _ :: _ :: _ => exact trivial
    | _ => exact trivial
  | _ => exact trivial⟩
/-- a, b = x, y -/
def vPar (i j : Nat) (fa : VA) : VS := fun env => vthen (fa env) fun ms e => match ms with
  | [a, b] => .nx ((e.put i (some a)).put j (some b))
  | _ => .no
theorem ss_par {i j : Nat} {fa : FA} {va : VA} (hi : i ∉ I) (hj : j ∉ I) (h : SimA pa fa va) : SimS (pa && true) I (fPar i j fa) (vPar i j va) := ⟨fun env en S As he nd => SimAt.then (k := fun ds S1 => match ds with
    | [d1, d2] => .nx ((en.set i (some d1)).set j (some d2)) S1
    | _ => .no) (h.run env en S As he nd) fun ms ds env1 S1 As1 B he1 r1 nd1 => by
  match ms with
  | [a, b] =>
    obtain ⟨d, d', B1, B2, rfl, rfl, h1, h2⟩ := reps2 r1
    have q := (sg_name hi).run a d B1 env1 en S1 As1 he1 h1 (nd1.le fun a => by simp only [List.count_append]; omega)
    refine ⟨_, S1, (As1.set i B1).set j B2, rfl, (he1.put i (slot_some h1)).put j (slot_some h2), nd1.le fun a => ?_, ⟨Nat.le_refl _, fun _ _ _ => rfl, fun n hn => .inl ?_⟩, fun l hl => ?_, Mo.refl⟩
    · have h1 := count_set_le As1 i B1 a
      have h2 := count_set_le (As1.set i B1) j B2 a
      simp only [List.count_append]; omega
    · simp only [List.mem_append]
      rcases mem_set_flat hn with q | q
      · exact (mem_set_flat q).elim .inl (fun z => .inr (.inl z))
      · exact .inr (.inr q)
    · rw [List.getElem?_set_ne (fun q => hj (by rw [q]; exact hl)), List.getElem?_set_ne (fun q => hi (by rw [q]; exact hl))]
  | [] => exact trivial
  | [_] => exact trivial
  | _ :: _ :: _ :: _ => exact trivial⟩
def vPar3 (i j l : Nat) (fa : VA) : VS := fun env => vthen (fa env) fun ms e => match ms with
  | [a, b, c] => .nx (((e.put i (some a)).put j (some b)).put l (some c))
  | _ => .no
theorem ss_par3 {i j l : Nat} {fa : FA} {va : VA} (hi : i ∉ I) (hj : j ∉ I) (hl' : l ∉ I) (h : SimA pa fa va) : SimS (pa && true) I (fPar3 i j l fa) (vPar3 i j l va) := ⟨fun env en S As he nd => SimAt.then (k := fun ds S1 => match ds with
    | [d1, d2, d3] => .nx (((en.set i (some d1)).set j (some d2)).set l (some d3)) S1
    | _ => .no) (h.run env en S As he nd) fun ms ds env1 S1 As1 B he1 r1 nd1 => by
  match ms with
  | [a, b, c] =>
    obtain ⟨d, d', d'', B1, B2, B3, rfl, rfl, h1, h2, h3⟩ := reps3 r1
    refine ⟨_, S1, ((As1.set i B1).set j B2).set l B3, rfl, ((he1.put i (slot_some h1)).put j (slot_some h2)).put l (slot_some h3), nd1.le fun a => ?_, ⟨Nat.le_refl _, fun _ _ _ => rfl, fun n hn => .inl ?_⟩, fun k hk => ?_, Mo.refl⟩
    · have h1 := count_set_le As1 i B1 a
      have h2 := count_set_le (As1.set i B1) j B2 a
      have h3 := count_set_le ((As1.set i B1).set j B2) l B3 a
      simp only [List.count_append]; omega
    · simp only [List.mem_append]
      rcases mem_set_flat hn with q | q
      · rcases mem_set_flat q with q | q
        · exact (mem_set_flat q).elim .inl (fun z => .inr (.inl z))
        · exact .inr (.inr (.inl q))
      · exact .inr (.inr (.inr q))
    · rw [List.getElem?_set_ne (fun q => hl' (by rw [q]; exact hk)), List.getElem?_set_ne (fun q => hj (by rw [q]; exact hk)), List.getElem?_set_ne (fun q => hi (by rw [q]; exact hk))]
  | [] => exact trivial
  | [_] => exact trivial
  | [_, _] => exact trivial
  | _ :: _ :: _ :: _ :: _ => exact trivial⟩
/-- x op= e, plain data -/
def vAug (i : Nat) (v : VE) (g : G2) : VS := fun env => match env.o[i]? with
  | some (some (.val x)) => vthen (v env) fun y e => match liftG g (.val x) y with
    | some m => .nx (e.put i (some m))
    | none => .no
  | _ => .no
theorem ss_aug {i : Nat} {g : G2} (hi : i ∉ I) (hg : OpV g) (h : SimE p x fe ve) : SimS (p && true) I (fAug i fe g) (vAug i ve g) := ⟨fun env en S As he nd => by
  unfold vAug
  split
  · rename_i y hy
    obtain ⟨d, A, h1, h2, h3⟩ := at_var he hy
    obtain ⟨rfl, hn, rfl⟩ := rep_val h3
    simp only [fAug, h1]
    refine SimAt.then (h.run env en S As he nd) fun m e env1 S1 As1 B he1 r1 nd1 => ?_
    cases hm : liftG g (.val d) m with
    | none => exact trivial
    | some z =>
      obtain ⟨r, rfl, e1, e2⟩ := lift_run (a := .val d) (d := d) hg (show VwD S1 d d from .inl ⟨rfl, hn⟩) r1.vw hm
      rw [e1]
      have q := (sg_name hi).run (.val r) r [] env1 en S1 As1 he1 (Rep.val e2) (by simpa using nd1.left)
      obtain ⟨en', S', As', q1, q2, q3, q4, q5, q6⟩ := q
      simp only [gtName_eq, Option.some.injEq, Prod.mk.injEq] at q1
      obtain ⟨rfl, rfl⟩ := q1
      exact ⟨_, S1, As', rfl, q2, q3, ⟨Nat.le_refl _, fun _ _ _ => rfl, fun n hn => .inl (by
        rcases q4.new n hn with z | z
        · simp only [List.append_nil] at z; simp [z]
        · have := q2.lt n hn; omega)⟩, q5, Mo.refl⟩
  · exact trivial⟩
end stmts
end VF

namespace VF
open PySem L2 PF
variable [Tab]
section loops
variable {I : List Nat} {p x pc q q1 q2 : Bool} {f g : FS} {v w : VS} {ft : FT} {vt : VT}
/-- how a turn ends -/
def turnV (r : Vl) (k : Env → Vl) : Vl := match r with
  | .nx e => k e
  | .ct e => k e
  | .bk e => .nx e
  | .rt m e => .rt m e
  | .ex C e => .ex C e
  | .no => .no
def turnF (r : Fl) (k : En → So → Fl) : Fl := match r with
  | .nx e S => k e S
  | .ct e S => k e S
  | .bk e S => .nx e S
  | .rt d S => .rt d S
  | .ex C e S => .ex C e S
  | .no => .no
theorem st_turn {S : So} {en : En} {A : List Nat} {r : Fl} {rv : Vl} {k : En → So → Fl} {kv : Env → Vl} (h : StP q1 I S en A r rv)
    (h2 : ∀ env1 en1 S1 As1, EnvR S1 env1 en1 As1 → Nd As1.flatten → Kp I en en1 → Mo q1 S S1 → StP q2 I S1 en1 As1.flatten (k en1 S1) (kv env1)) (z1 : q = true → q1 = true) (z2 : q = true → q2 = true) : StP q I S en A (turnF r k) (turnV rv kv) := by
  cases rv with
  | no => exact trivial
  | nx e =>
    obtain ⟨en', S', As', g1, g2, g3, g4, g5, g6⟩ := h
    rw [g1]
    exact StP.later (h2 e en' S' As' g2 g3 g5 g6) g4 g5 g6 z1 z2
  | ct e =>
    obtain ⟨en', S', As', g1, g2, g3, g4, g5, g6⟩ := h
    rw [g1]
    exact StP.later (h2 e en' S' As' g2 g3 g5 g6) g4 g5 g6 z1 z2
  | bk e =>
    obtain ⟨en', S', As', g1, g2, g3, g4, g5, g6⟩ := h
    rw [g1]
    exact ⟨en', S', As', rfl, g2, g3, g4, g5, fun z => g6 (z1 z)⟩
  | ex C e =>
    obtain ⟨en', S', As', g1, g2, g3, g4, g5, g6⟩ := h
    rw [g1]
    exact ⟨en', S', As', rfl, g2, g3, g4, g5, fun z => g6 (z1 z)⟩
  | rt m e =>
    obtain ⟨d, en', S', As', B, g1, g2, g3, g4, g5, g6, g7⟩ := h
    rw [g1]
    exact ⟨d, en', S', As', B, rfl, g2, g3, g4, g5, g6, fun z => g7 (z1 z)⟩
def vWhile (c : VT) (b : VS) : Nat → VS
  | 0 => fun _ => .no
  | n + 1 => fun env => vthen (c env) fun k e => if k = true then turnV (b e) (vWhile c b n) else .nx e
theorem fWhile_turn (c : FT) (b : FS) (n : Nat) (en : En) (S : So) : fWhile c b (n + 1) en S = fthen en (c en S) fun k S1 => if k = true then turnF (b en S1) (fWhile c b n) else .nx en S1 := by
  show (fthen en (c en S) fun k S1 => if k = true then (match b en S1 with
    | .nx e2 S2 => fWhile c b n e2 S2
    | .ct e2 S2 => fWhile c b n e2 S2
    | .bk e2 S2 => .nx e2 S2
    | .rt d S2 => .rt d S2
    | .ex C e2 S2 => .ex C e2 S2
    | .no => .no) else .nx en S1) = _
  congr 1
theorem ss_while (n : Nat) (hc : SimT pc ft vt) (hb : SimS q I f v) : SimS (pc && q) I (fWhile ft f n) (vWhile vt v n) := by
  induction n with
  | zero => exact ⟨fun env en S As he nd => trivial⟩
  | succ n ih =>
    refine ⟨fun env en S As he nd => ?_⟩
    rw [fWhile_turn]
    have := SimAt.then (q := pc && q) (I := I) (k := fun k S1 => if k = true then turnF (f en S1) (fWhile ft f n) else .nx en S1) (kv := fun k e => if k = true then turnV (v e) (vWhile vt v n) else .nx e) (hc.run env en S As he nd) fun a b env1 S1 As1 B he1 r1 nd1 => by
      obtain ⟨rfl, rfl⟩ := r1
      cases b with
      | false => exact ⟨en, S1, As1, rfl, he1, nd1.left, Fr.refl.sub (fun n hn => by simp [hn]), Kp.refl, Mo.refl⟩
      | true =>
        exact (st_turn (q2 := pc && q) (hb.run env1 en S1 As1 he1 nd1.left) (fun env2 en2 S2 As2 he2 nd2 _ _ => ih.run env2 en2 S2 As2 he2 nd2) (fun z => by simp at z; exact z.2) id).wide fun n hn => by simp [hn]
    exact this.imp fun z => by simp at z ⊢; exact z
/-! ### what is walked -/
def RIt (x : Bool) (S : So) (ds : List D) (t : ItD) (B : List Nat) : Prop := B = [] ∧ nrs ds = true ∧ (t = .items ds ∨ (x = false ∧ ds.length < 100000 ∧ ∃ n, t = .live n ∧ S[n]? = some (.lst ds)))
abbrev VI := Env → Rv (List D)
abbrev SimF (p x : Bool) (f : FI) (v : VI) : Prop := SimR (RIt x) p f v
/-- the items of plain data -/
def itemsD : D → Option (List D)
  | .tup ds => some ds
  | .lst ds => some ds
  | .str s => some (s.cps.toList.map fun c => .str ⟨#[c]⟩)
  | _ => none
def itemsM : M → Option (List D)
  | .val d => itemsD d
  | _ => none
def ofI2 (o : Option (List D)) (e : Env) : Rv (List D) := match o with
  | some ds => .ok ds e
  | none => .no
def viSeq (v : VE) : VI := fun env => (v env).bind fun m e => ofI2 (itemsM m) e
theorem sf_seq {fe : FE} {ve : VE} (h : SimE p true fe ve) : SimF p true (fiSeq fe) (viSeq ve) := by
  have := SimR.bind (R2 := RIt true) (p2 := true) (k := fun d en S => ofI (iterOf S d) S) (kv := fun m e => ofI2 (itemsM m) e) h fun m d env en S As B he r nd => by
    cases m with
    | val y =>
      obtain ⟨rfl, h2, rfl⟩ := rep_val (show Rep S _ _ _ from r)
      cases d with
      | tup ds => exact ok_dropG he nd ⟨rfl, by simpa [nr] using h2, .inl rfl⟩
      | lst ds => exact ok_dropG he nd ⟨rfl, by simpa [nr] using h2, .inl rfl⟩
      | str s => exact ok_dropG he nd ⟨rfl, nrs_all (fun d hd => by obtain ⟨c, _, rfl⟩ := List.mem_map.mp hd; rfl), .inl rfl⟩
      | _ => exact trivial
    | _ => exact trivial
  rw [Bool.and_true] at this
  exact this
/-- a list that is looked at -/
def viLk (v : VE) : VI := fun env => (v env).bind fun m e => match itemsM m with
  | some ds => if ds.length < 100000 then .ok ds e else .no
  | none => .no
theorem sf_lk {fe : FE} {ve : VE} (h : SimE p x fe ve) : SimF p false (fiSeq fe) (viLk ve) := by
  have := SimR.bind (R2 := RIt false) (p2 := true) (k := fun d en S => ofI (iterOf S d) S) (kv := fun m e => match itemsM m with
    | some ds => if ds.length < 100000 then .ok ds e else .no
    | none => .no) h fun m d env en S As B he r nd => by
    cases m with
    | val y =>
      have hv : VwD S y d := r.vw
      have hn := nr_vw hv
      cases hy : itemsM (.val y) with
      | none => exact trivial
      | some ds =>
        refine at_if fun hl => ?_
        rcases hv with ⟨rfl, _⟩ | ⟨es, n, rfl, rfl, h3, h4⟩
        · cases d with
          | tup es => simp only [itemsM, itemsD, Option.some.injEq] at hy; subst hy; exact ok_dropG he nd ⟨rfl, by simpa [nr] using hn, .inl rfl⟩
          | lst es => simp only [itemsM, itemsD, Option.some.injEq] at hy; subst hy; exact ok_dropG he nd ⟨rfl, by simpa [nr] using hn, .inl rfl⟩
          | str s => simp only [itemsM, itemsD, Option.some.injEq] at hy; subst hy; exact ok_dropG he nd ⟨rfl, nrs_all (fun d hd => by obtain ⟨c, _, rfl⟩ := List.mem_map.mp hd; rfl), .inl rfl⟩
          | _ => simp [itemsM, itemsD] at hy
        · simp only [itemsM, itemsD, Option.some.injEq] at hy; subst hy
          have : iterOf S (.ref n) = some (.live n) := by simp [iterOf, h3]
          rw [this]
          exact ok_dropG he nd ⟨rfl, h4, .inr ⟨rfl, hl, n, rfl, h3⟩⟩
    | _ => exact trivial
  rw [Bool.and_true] at this
  exact this
/-! for -/
def forI (g : VG) (b : VS) : List D → VS
  | [] => fun env => .nx env
  | d :: ds => fun env => match g (.val d) env with
    | none => .no
    | some e1 => turnV (b e1) (forI g b ds)
def vFor (vi : VI) (g : VG) (b : VS) : VS := fun env => vthen (vi env) fun ds e => forI g b ds e
theorem forL_turn (g : FG) (b : FS) (d : D) (ds : List D) (en : En) (S : So) : forL g b (d :: ds) en S = match g d en S with
    | none => .no
    | some (e1, S1) => turnF (b e1 S1) (forL g b ds) := by
  show (match g d en S with
    | none => Fl.no
    | some (e1, S1) => match b e1 S1 with
      | .nx e2 S2 => forL g b ds e2 S2
      | .ct e2 S2 => forL g b ds e2 S2
      | .bk e2 S2 => .nx e2 S2
      | .rt d S2 => .rt d S2
      | .ex C e2 S2 => .ex C e2 S2
      | .no => .no) = _
  cases g d en S with
  | none => rfl
  | some p => rfl
theorem forR_turn (g : FG) (b : FS) (n k i : Nat) (en : En) (S : So) {ds : List D} (h : S[n]? = some (.lst ds)) : forR g b n (k + 1) i en S = match ds[i]? with
    | none => .nx en S
    | some d => match g d en S with
      | none => .no
      | some (e1, S1) => turnF (b e1 S1) (forR g b n k (i + 1)) := by
  show (match S[n]? with
    | some (.lst ds) => match ds[i]? with
      | none => Fl.nx en S
      | some d => match g d en S with
        | none => .no
        | some (e1, S1) => match b e1 S1 with
          | .nx e2 S2 => forR g b n k (i + 1) e2 S2
          | .ct e2 S2 => forR g b n k (i + 1) e2 S2
          | .bk e2 S2 => .nx e2 S2
          | .rt d S2 => .rt d S2
          | .ex C e2 S2 => .ex C e2 S2
          | .no => .no
    | _ => .no) = _
  rw [h]
  dsimp only
  cases ds[i]? with
  | none => rfl
  | some d =>
    dsimp only
    cases g d en S with
    | none => rfl
    | some p => rfl
theorem ss_forL {gt : FG} {wt : VG} (hg : SimG q1 I gt wt) (hb : SimS q2 I f v) : ∀ (ds : List D), nrs ds = true → SimS (q1 && q2) I (forL gt f ds) (forI wt v ds)
  | [], hn => ⟨fun env en S As he nd => ⟨en, S, As, rfl, he, nd, Fr.refl, Kp.refl, Mo.refl⟩⟩
  | d :: ds, hn => ⟨fun env en S As he nd => by
    simp only [nrs, Bool.and_eq_true] at hn
    have q := hg.run (.val d) d [] env en S As he (Rep.val hn.1) (by simpa using nd)
    rw [forL_turn]
    unfold forI
    cases e : wt (.val d) env with
    | none => exact trivial
    | some e1 =>
      rw [e] at q
      obtain ⟨en', S', As', h1, h2, h3, h4, h5, h6⟩ := q
      rw [h1]
      rw [List.append_nil] at h4
      have st := st_turn (q := q1 && q2) (q2 := q1 && q2) (hb.run e1 en' S' As' h2 h3) (fun env2 en2 S2 As2 he2 nd2 _ _ => (ss_forL hg hb ds hn.2).run env2 en2 S2 As2 he2 nd2) (fun z => by simp at z; exact z.2) id
      exact st.later h4 h5 h6 (fun z => by simp at z; exact z.1) id⟩
/-- over a list that stands, nothing being changed -/
theorem ss_forRp {gt : FG} {wt : VG} (hg : SimG true I gt wt) (hb : SimS true I f v) (n : Nat) (all : List D) (hn : nrs all = true) : ∀ (k i : Nat), all.length - i < k → ∀ (env : Env) (en : En) (S : So) (As : List (List Nat)), EnvR S env en As → Nd As.flatten → S[n]? = some (.lst all) → StP true I S en As.flatten (forR gt f n k i en S) (forI wt v (all.drop i) env)
  | 0, i, hk, env, en, S, As, he, nd, hS => by omega
  | k + 1, i, hk, env, en, S, As, he, nd, hS => by
    rw [forR_turn gt f n k i en S hS]
    by_cases hi : i < all.length
    · rw [List.drop_eq_getElem_cons hi, List.getElem?_eq_getElem hi]
      have hd : nr all[i] = true := nrs_mem hn (List.getElem_mem hi)
      have q := hg.run (.val all[i]) all[i] [] env en S As he (Rep.val hd) (by simpa using nd)
      unfold forI
      dsimp only
      cases e : wt (.val all[i]) env with
      | none => exact trivial
      | some e1 =>
        rw [e] at q
        obtain ⟨en', S', As', h1, h2, h3, h4, h5, h6⟩ := q
        rw [h1]
        rw [List.append_nil] at h4
        obtain ⟨J, rfl⟩ := h6 rfl
        have hl := (List.getElem?_eq_some_iff.mp hS).1
        have st := st_turn (q := true) (q2 := true) (kv := forI wt v (all.drop (i + 1))) (k := forR gt f n k (i + 1)) (hb.run e1 en' (S ++ J) As' h2 h3) (fun env2 en2 S2 As2 he2 nd2 _ mo => by
          obtain ⟨J', rfl⟩ := mo rfl
          exact ss_forRp hg hb n all hn k (i + 1) (by omega) env2 en2 _ As2 he2 nd2 (by rw [List.append_assoc, get_app hl]; exact hS)) id id
        exact st.later h4 h5 h6 id id
    · rw [List.drop_of_length_le (by omega), List.getElem?_eq_none (by omega)]
      exact ⟨en, S, As, rfl, he, nd, Fr.refl, Kp.refl, Mo.refl⟩
theorem ss_for {fi : FI} {vi : VI} {gt : FG} {wt : VG} (hi : SimF p x fi vi) (hg : SimG q1 I gt wt) (hb : SimS q2 I f v) (hx : (x || (q1 && q2)) = true := by rfl) : SimS (p && (q1 && q2)) I (fFor 100000 fi gt f) (vFor vi wt v) := ⟨fun env en S As he nd => by
  have := SimAt.then (q := q1 && q2) (I := I) (k := fun t S1 => match t with
    | .items ds => forL gt f ds en S1
    | .live n => forR gt f n 100000 0 en S1) (kv := fun ds e => forI wt v ds e) (hi.run env en S As he nd) fun ds t env1 S1 As1 B he1 r1 nd1 => by
    obtain ⟨rfl, hn, h | ⟨rfl, hl, n, rfl, hS⟩⟩ := r1
    · subst h
      exact ((ss_forL hg hb ds hn).run env1 en S1 As1 he1 nd1.left).wide fun n hn => by simp [hn]
    · simp only [Bool.false_or, Bool.and_eq_true] at hx
      obtain ⟨rfl, rfl⟩ := hx
      have := ss_forRp hg hb n ds hn 100000 0 (by omega) env1 en S1 As1 he1 nd1.left hS
      rw [List.drop_zero] at this
      exact this.wide fun n hn => by simp [hn]
  exact this⟩
/-- over a list that a name owns, as it stands at each turn -/
def forV (i : Nat) (g : VG) (b : VS) : Nat → Nat → VS
  | 0, _ => fun _ => .no
  | k + 1, j => fun env => match env.o[i]? with
    | some (some (.lst ms)) => match ms[j]? with
      | none => .nx env
      | some (.val d) => match g (.val d) env with
        | none => .no
        | some e1 => turnV (b e1) (forV i g b k (j + 1))
      | some _ => .no
    | _ => .no
def vForV (i : Nat) (g : VG) (b : VS) : VS := forV i g b 100000 0
theorem ss_forVr {i : Nat} {gt : FG} {wt : VG} (hg : SimG q1 (i :: I) gt wt) (hb : SimS q2 (i :: I) f v) (n : Nat) : ∀ (k j : Nat) (env : Env) (en : En) (S : So) (As : List (List Nat)), EnvR S env en As → Nd As.flatten → en[i]? = some (some (.ref n)) → StP (q1 && q2) I S en As.flatten (forR gt f n k j en S) (forV i wt v k j env)
  | 0, j, env, en, S, As, he, nd, hS => trivial
  | k + 1, j, env, en, S, As, he, nd, hS => by
    unfold forV
    cases ho : env.o[i]? with
    | none => exact trivial
    | some o =>
    cases o with
    | none => exact trivial
    | some m =>
    cases m with
    | lst ms =>
      obtain ⟨d, A, h1, h2, h3⟩ := at_var he ho
      obtain ⟨n', ds, B, rfl, g1, g2, rfl⟩ := rep_lst h3
      rw [hS] at h1; cases h1
      rw [forR_turn gt f n k j en S g1]
      dsimp only
      cases hm : ms[j]? with
      | none =>
        have : ds[j]? = none := by rw [List.getElem?_eq_none_iff] at hm ⊢; rw [← g2.length]; exact hm
        rw [this]
        exact ⟨en, S, As, rfl, he, nd, Fr.refl, Kp.refl, Mo.refl⟩
      | some m =>
        cases m with
        | val d =>
          obtain ⟨d', A1, A', A2, k1, k2, k3, k4⟩ := Reps.at g2 hm
          obtain ⟨rfl, hd, rfl⟩ := rep_val k3
          rw [k1]
          have q := hg.run (.val d') d' [] env en S As he (Rep.val hd) (by simpa using nd)
          dsimp only
          cases e : wt (.val d') env with
          | none => exact trivial
          | some e1 =>
            rw [e] at q
            obtain ⟨en', S', As', w1, w2, w3, w4, w5, w6⟩ := q
            rw [w1]
            rw [List.append_nil] at w4
            have hkp : ∀ {a b : En}, Kp (i :: I) a b → Kp I a b := fun h j hj => h j (List.mem_cons_of_mem _ hj)
            have hen : en'[i]? = some (some (.ref n)) := by rw [w5 i (by simp)]; exact hS
            have bd := hb.run e1 en' S' As' w2 w3
            have bd' : StP q2 I S' en' As'.flatten (f en' S') (v e1) := by
              cases ev : v e1 with
              | no => exact trivial
              | nx e => rw [ev] at bd; obtain ⟨a1, a2, a3, a4, a5, a6, a7, a8, a9⟩ := bd; exact ⟨a1, a2, a3, a4, a5, a6, a7, hkp a8, a9⟩
              | ct e => rw [ev] at bd; obtain ⟨a1, a2, a3, a4, a5, a6, a7, a8, a9⟩ := bd; exact ⟨a1, a2, a3, a4, a5, a6, a7, hkp a8, a9⟩
              | bk e => rw [ev] at bd; obtain ⟨a1, a2, a3, a4, a5, a6, a7, a8, a9⟩ := bd; exact ⟨a1, a2, a3, a4, a5, a6, a7, hkp a8, a9⟩
              | ex C e => rw [ev] at bd; obtain ⟨a1, a2, a3, a4, a5, a6, a7, a8, a9⟩ := bd; exact ⟨a1, a2, a3, a4, a5, a6, a7, hkp a8, a9⟩
              | rt m e => rw [ev] at bd; obtain ⟨a0, a1, a2, a3, a10, a4, a5, a6, a7, a8, a9, a11⟩ := bd; exact ⟨a0, a1, a2, a3, a10, a4, a5, a6, a7, a8, hkp a9, a11⟩
            have st : StP (q1 && q2) I S' en' As'.flatten (turnF (f en' S') (forR gt f n k (j + 1))) (turnV (v e1) (forV i wt v k (j + 1))) := by
              cases ev : v e1 with
              | no => exact trivial
              | nx e =>
                rw [ev] at bd
                obtain ⟨en2, S2, As2, b1, b2, b3, b4, b5, b6⟩ := bd
                rw [b1]
                exact StP.later (ss_forVr hg hb n k (j + 1) e en2 S2 As2 b2 b3 (by rw [b5 i (by simp)]; exact hen)) b4 (hkp b5) b6 (fun z => by simp at z; exact z.2) id
              | ct e =>
                rw [ev] at bd
                obtain ⟨en2, S2, As2, b1, b2, b3, b4, b5, b6⟩ := bd
                rw [b1]
                exact StP.later (ss_forVr hg hb n k (j + 1) e en2 S2 As2 b2 b3 (by rw [b5 i (by simp)]; exact hen)) b4 (hkp b5) b6 (fun z => by simp at z; exact z.2) id
              | bk e => rw [ev] at bd'; obtain ⟨a1, a2, a3, a4, a5, a6, a7, a8, a9⟩ := bd'; rw [a4]; exact ⟨a1, a2, a3, rfl, a5, a6, a7, a8, fun z => a9 (by simp at z; exact z.2)⟩
              | ex C e => rw [ev] at bd'; obtain ⟨a1, a2, a3, a4, a5, a6, a7, a8, a9⟩ := bd'; rw [a4]; exact ⟨a1, a2, a3, rfl, a5, a6, a7, a8, fun z => a9 (by simp at z; exact z.2)⟩
              | rt m e => rw [ev] at bd'; obtain ⟨a0, a1, a2, a3, a10, a4, a5, a6, a7, a8, a9, a11⟩ := bd'; rw [a4]; exact ⟨a0, a1, a2, a3, a10, rfl, a5, a6, a7, a8, a9, fun z => a11 (by simp at z; exact z.2)⟩
            exact st.later w4 (hkp w5) w6 (fun z => by simp at z; exact z.1) id
        | _ => exact trivial
    | _ => exact trivial
theorem ss_forV {i : Nat} {gt : FG} {wt : VG} (hg : SimG q1 (i :: I) gt wt) (hb : SimS q2 (i :: I) f v) : SimS (q1 && q2) I (fFor 100000 (fiSeq (fVar i)) gt f) (vForV i wt v) := ⟨fun env en S As he nd => by
  unfold vForV
  cases ho : env.o[i]? with
  | none => unfold forV; rw [ho]; exact trivial
  | some o =>
    cases o with
    | none => unfold forV; rw [ho]; exact trivial
    | some m =>
      cases m with
      | lst ms =>
        obtain ⟨d, A, h1, h2, h3⟩ := at_var he ho
        obtain ⟨n', ds, B, rfl, g1, g2, rfl⟩ := rep_lst h3
        have : fFor 100000 (fiSeq (fVar i)) gt f en S = forR gt f n' 100000 0 en S := by simp [fFor, fiSeq, fVar, h1, iterOf, g1]
        rw [this]
        exact ss_forVr hg hb n' 100000 0 env en S As he nd h1
      | _ => unfold forV; rw [ho]; exact trivial⟩
end loops
end VF

namespace VF
open PySem L2 PF
variable [Tab]
def intM : M → Option Int
  | .val (.int i) => some i
  | _ => none
def intsM : List M → Option (List Int)
  | [] => some []
  | m :: ms => match intM m, intsM ms with
    | some i, some r => some (i :: r)
    | _, _ => none
theorem intM_eq {m : M} {i : Int} (h : intM m = some i) : m = .val (.int i) := by
  cases m with
  | val d => cases d <;> simp [intM] at h; subst h; rfl
  | _ => simp [intM] at h
theorem intsM_eq : ∀ {ms : List M} {ns : List Int}, intsM ms = some ns → ms = ns.map fun i => .val (.int i)
  | [], ns, h => by simp only [intsM] at h; cases h; rfl
  | m :: ms, ns, h => by
    simp only [intsM] at h
    split at h
    · rename_i i r h1 h2
      cases h
      rw [intM_eq h1, intsM_eq h2]; rfl
    · cases h
theorem rav_ints {S : So} : ∀ {ns : List Int} {ds : List D} {B : List Nat}, RAv S (ns.map fun i => M.val (.int i)) ds B → ds = ns.map D.int
  | [], ds, B, h => by
    have := h.2.1
    cases ds with
    | nil => rfl
    | cons _ _ => simp at this
  | n :: ns, ds, B, h => by
    cases ds with
    | nil => have := h.2.1; simp at this
    | cons d ds =>
      have h0 : d = .int n := vwd_eq (h.2.2 0 (.val (.int n)) d rfl rfl) (by simp)
      have := rav_ints (ns := ns) (ds := ds) (B := []) ⟨rfl, by have := h.2.1; simpa using this, fun i m e h1 h2 => h.2.2 (i + 1) m e (by simpa using h1) (by simpa using h2)⟩
      rw [h0, this]; rfl
section its
variable {p pa pb pc x xa xb xc : Bool} {fa fb fc : FE} {va vb vc : VE} {gs : FA} {ws : VA}
theorem nrs_rg (lo : Int) (n : Nat) : nrs (rgD lo n) = true := nrs_all fun d hd => by
  obtain ⟨i, _, rfl⟩ := List.mem_map.mp hd; rfl
def rngOk (j : Int) : Bool := decide (-1000000000 ≤ j) && decide (j ≤ 1000000000)
theorem rngOk_iff {j : Int} (h : rngOk j = true) : -1000000000 ≤ j ∧ j ≤ 1000000000 := by simpa [rngOk] using h
/-- the numbers of a range -/
def rngM : Option (List Int) → Option (List D)
  | some [j] => if rngOk j = true then some (rgD 0 j.toNat) else none
  | some [i, j] => if rngOk i = true ∧ rngOk j = true then some (rgD i (j - i).toNat) else none
  | _ => none
def viRng (va : VA) : VI := fun env => (va env).bind fun ms e => ofI2 (rngM (intsM ms)) e
theorem sf_rng1 (ha : SimAV pa gs ws) (h1 : ∀ env ms e, ws env = .ok ms e → ms.length = 1) : SimF pa true (fiRng1 gs) (viRng ws) := by
  refine ⟨fun env en S As he nd => ?_⟩
  have q := ha.run env en S As he nd
  unfold viRng
  cases hw : ws env with
  | no => exact trivial
  | ex C e =>
    rw [hw] at q
    obtain ⟨S', As', e1, e2, e3, e4, e5⟩ := q
    exact ⟨S', As', by simp [fiRng1, e1], e2, e3, e4, e5⟩
  | ok ms e =>
    rw [hw] at q
    obtain ⟨ds, S', As', B, e1, e2, e3, e4, e5, e6⟩ := q
    show SimAt _ _ _ _ _ _ _ (ofI2 (rngM (intsM ms)) e)
    have hl := h1 env ms e hw
    cases hi : intsM ms with
    | none => exact trivial
    | some ns =>
      have hm := intsM_eq hi
      rw [hm] at e3 hl
      have hd := rav_ints e3
      match ns with
      | [j] =>
        simp only [rngM]
        by_cases hj : rngOk j = true
        · rw [if_pos hj]
          have hb := rngOk_iff hj
          refine ⟨.items (rgD 0 j.toNat), S', As', [], ?_, e2, ⟨rfl, nrs_rg _ _, .inl rfl⟩, by simpa using e4.left, e5.sub (fun n hn => by simp at hn ⊢; exact .inl hn), e6⟩
          unfold fiRng1
          rw [e1, hd]
          show (if -(2 ^ 62) ≤ j ∧ j < 2 ^ 62 then _ else _) = _
          rw [if_pos ⟨by omega, by omega⟩]
        · rw [if_neg hj]; exact trivial
      | [] => simp at hl
      | _ :: _ :: _ => simp at hl
theorem sf_rng2 (ha : SimAV pa gs ws) (h1 : ∀ env ms e, ws env = .ok ms e → ms.length = 2) : SimF pa true (fiRng2 gs) (viRng ws) := by
  refine ⟨fun env en S As he nd => ?_⟩
  have q := ha.run env en S As he nd
  unfold viRng
  cases hw : ws env with
  | no => exact trivial
  | ex C e =>
    rw [hw] at q
    obtain ⟨S', As', e1, e2, e3, e4, e5⟩ := q
    exact ⟨S', As', by simp [fiRng2, e1], e2, e3, e4, e5⟩
  | ok ms e =>
    rw [hw] at q
    obtain ⟨ds, S', As', B, e1, e2, e3, e4, e5, e6⟩ := q
    show SimAt _ _ _ _ _ _ _ (ofI2 (rngM (intsM ms)) e)
    have hl := h1 env ms e hw
    cases hi : intsM ms with
    | none => exact trivial
    | some ns =>
      have hm := intsM_eq hi
      rw [hm] at e3 hl
      have hd := rav_ints e3
      match ns with
      | [i, j] =>
        simp only [rngM]
        by_cases hj : rngOk i = true ∧ rngOk j = true
        · rw [if_pos hj]
          have hb := rngOk_iff hj.1
          have hb2 := rngOk_iff hj.2
          refine ⟨.items (rgD i (j - i).toNat), S', As', [], ?_, e2, ⟨rfl, nrs_rg _ _, .inl rfl⟩, by simpa using e4.left, e5.sub (fun n hn => by simp at hn ⊢; exact .inl hn), e6⟩
          unfold fiRng2
          rw [e1, hd]
          show (if -(2 ^ 62) ≤ i ∧ i < 2 ^ 62 ∧ -(2 ^ 62) ≤ j ∧ j < 2 ^ 62 then _ else _) = _
          rw [if_pos ⟨by omega, by omega, by omega, by omega⟩]
        · rw [if_neg hj]; exact trivial
      | [] => simp at hl
      | [_] => simp at hl
      | _ :: _ :: _ :: _ => simp at hl
/-- so many arguments -/
theorem len_nil : ∀ env ms e, vNil env = .ok ms e → ms.length = 0 := fun env ms e h => by unfold vNil at h; cases h; rfl
theorem len_cons {v : VE} {w : VA} {n : Nat} (h : ∀ env ms e, w env = .ok ms e → ms.length = n) : ∀ env ms e, vCons v w env = .ok ms e → ms.length = n + 1 := fun env ms e hh => by
  unfold vCons at hh
  cases hv : v env with
  | no => rw [hv] at hh; cases hh
  | ex => rw [hv] at hh; cases hh
  | ok m e1 =>
    rw [hv] at hh
    cases hw : w e1 with
    | no => simp only [Rv.bind, hw] at hh; cases hh
    | ex => simp only [Rv.bind, hw] at hh; cases hh
    | ok ms2 e2 =>
      simp only [Rv.bind, hw] at hh
      cases hh
      simp [h e1 ms2 _ hw]
/-! ### comprehensions -/
/-- a target of a comprehension: its names, and how they are cleared -/
def Env.clr (e : Env) : List Nat → Env
  | [] => e
  | i :: vs => (Env.clr e vs).put i none
structure SimO (vs : List Nat) (g : FG) (w : VG) : Prop where
  run : ∀ (d : D) (env : Env) (en : En) (S : So) (As : List (List Nat)), EnvR S env en As → nr d = true → Nd As.flatten → match w (.val d) env with
    | some e' => ∃ en' As', g d en S = some (en', S) ∧ EnvR S e' en' As' ∧ Nd As'.flatten ∧ (∀ n ∈ As'.flatten, n ∈ As.flatten) ∧ (∀ S2 e2 As2, EnvR S2 e2 en' As2 → Nd As2.flatten → ∃ As3, EnvR S2 (e2.clr vs) en As3 ∧ (∀ a, As3.flatten.count a ≤ As2.flatten.count a))
    | none => True
theorem clr_back {i : Nat} {en : En} {eo : Option D} {d : Option D} (h : en[i]? = some eo) : (en.set i d).set i eo = en := by
  rw [List.set_set]; exact set_self h
theorem so_name (i : Nat) : SimO [i] (gtName i) (tName i) := ⟨fun d env en S As he hd nd => by
  refine ⟨en.set i (some d), As.set i [], rfl, he.put i (slot_some (Rep.val hd)), nd.le fun a => ?_, fun n hn => (mem_set_flat hn).elim id (by intro z; cases z), fun S2 e2 As2 h2 nd2 => ?_⟩
  · have := count_set_le As i [] a
    simpa using this
  · refine ⟨As2.set i [], ?_, fun a => by have := count_set_le As2 i [] a; simpa using this⟩
    cases hi : en[i]? with
    | none =>
      have hl := List.getElem?_eq_none_iff.mp hi
      rw [List.set_eq_of_length_le hl] at h2
      have := h2.put (x := none) (e := none) (A := []) i rfl
      rw [List.set_eq_of_length_le hl] at this
      exact this
    | some eo =>
      have := h2.put (x := none) (e := eo) (A := []) i rfl
      rw [clr_back hi] at this
      exact this⟩
theorem so_pair {i j : Nat} (hij : i ≠ j) : SimO [i, j] (gtPair i j) (tPair i j) := ⟨fun d env en S As he hd nd => by
  cases d with
  | tup ds =>
    match ds with
    | [a, b] =>
      simp only [nr, nrs, Bool.and_true, Bool.and_eq_true] at hd
      refine ⟨(en.set i (some a)).set j (some b), (As.set i []).set j [], rfl, (he.put i (slot_some (Rep.val hd.1))).put j (slot_some (Rep.val hd.2)), nd.le fun a => ?_, fun n hn => ?_, fun S2 e2 As2 h2 nd2 => ?_⟩
      · have h1 := count_set_le As i [] a
        have h2 := count_set_le (As.set i []) j [] a
        simp only [List.count_nil] at h1 h2; omega
      · rcases mem_set_flat hn with q | q
        · exact (mem_set_flat q).elim id (by intro z; cases z)
        · cases q
      · refine ⟨(As2.set j []).set i [], ?_, fun a => by
          have h1 := count_set_le As2 j [] a
          have h2 := count_set_le (As2.set j []) i [] a
          simp only [List.count_nil] at h1 h2; omega⟩
        have key : ∀ (eo : Option D), EnvR S2 (e2.put j none) (((en.set i (some a)).set j (some b)).set j eo) (As2.set j []) := fun eo => h2.put j rfl
        have key2 : ∀ (eo eo' : Option D), EnvR S2 ((e2.put j none).put i none) ((((en.set i (some a)).set j (some b)).set j eo).set i eo') ((As2.set j []).set i []) := fun eo eo' => (key eo).put i rfl
        have back : ∃ eo eo', (((en.set i (some a)).set j (some b)).set j eo).set i eo' = en := by
          have e1 : ∀ eo, ((en.set i (some a)).set j (some b)).set j eo = (en.set i (some a)).set j eo := fun eo => by rw [List.set_set]
          cases hi : en[i]? with
          | none =>
            have hl := List.getElem?_eq_none_iff.mp hi
            cases hj : en[j]? with
            | none =>
              have hl2 := List.getElem?_eq_none_iff.mp hj
              exact ⟨none, none, by rw [List.set_eq_of_length_le hl, List.set_eq_of_length_le hl2, List.set_eq_of_length_le hl2, List.set_eq_of_length_le hl]⟩
            | some eo =>
              refine ⟨eo, none, ?_⟩
              rw [List.set_eq_of_length_le hl, clr_back hj, List.set_eq_of_length_le hl]
          | some eo' =>
            cases hj : en[j]? with
            | none =>
              have hl2 := List.getElem?_eq_none_iff.mp hj
              refine ⟨none, eo', ?_⟩
              rw [List.set_eq_of_length_le (l := en.set i (some a)) (by simpa using hl2), List.set_eq_of_length_le (l := en.set i (some a)) (by simpa using hl2)]
              exact clr_back hi
            | some eo =>
              refine ⟨eo, eo', ?_⟩
              rw [e1, List.set_comm _ _ hij, List.set_set, set_self hj, set_self hi]
        obtain ⟨eo, eo', hb⟩ := back
        have := key2 eo eo'
        rw [hb] at this
        exact this
    | [] => exact trivial
    | [_] => exact trivial
    | _ :: _ :: _ :: _ => exact trivial
  | _ => exact trivial⟩
/-- nothing is changed in the turns -/
def lcP (g : VG) (c : VT) (f : VE) (env : Env) : List D → List M → Option (List M)
  | [], acc => some acc
  | d :: ds, acc => match g (.val d) env with
    | none => none
    | some e1 => match c e1 with
      | .ok true _ => match f e1 with
        | .ok y _ => if acc.length < 1000000 then lcP g c f env ds (acc ++ [y]) else none
        | _ => none
      | .ok false _ => lcP g c f env ds acc
      | _ => none
end its
end VF

namespace VF
open PySem L2 PF
variable [Tab]
/-! ### what is owned is told by the value -/
mutual
theorem Rep.det {S : So} : ∀ {m : M} {d : D} {A A' : List Nat}, Rep S m d A → Rep S m d A' → A = A'
  | .val d, e, A, A', h, k => by unfold Rep at h k; rw [h.2.2, k.2.2]
  | .lst ms, e, A, A', h, k => by
    unfold Rep at h k
    obtain ⟨n, ds, B, h1, h2, h3, rfl⟩ := h
    obtain ⟨n', ds', B', k1, k2, k3, rfl⟩ := k
    rw [h1] at k1; cases k1
    rw [h2] at k2; cases k2
    rw [Reps.det h3 k3]
  | .dic ks ms, e, A, A', h, k => by
    unfold Rep at h k
    obtain ⟨n, ds, B, h1, h2, h4, h3, rfl⟩ := h
    obtain ⟨n', ds', B', k1, k2, k4, k3, rfl⟩ := k
    rw [h1] at k1; cases k1
    rw [h2] at k2; cases k2
    rw [Reps.det h3 k3]
  | .ins C ns ms, e, A, A', h, k => by
    unfold Rep at h k
    obtain ⟨n, ds, B, h1, h2, h4, h5, h3, rfl⟩ := h
    obtain ⟨n', ds', B', k1, k2, k4, k5, k3, rfl⟩ := k
    rw [h1] at k1; cases k1
    rw [h2] at k2; cases k2
    rw [Reps.det h3 k3]
theorem Reps.det {S : So} : ∀ {m : List M} {d : List D} {A A' : List Nat}, Reps S m d A → Reps S m d A' → A = A'
  | [], e, A, A', h, k => by unfold Reps at h k; rw [h.2, k.2]
  | m :: ms, e, A, A', h, k => by
    unfold Reps at h k
    obtain ⟨d, r, B1, B2, rfl, h2, h3, rfl⟩ := h
    obtain ⟨d', r', B1', B2', k1, k2, k3, rfl⟩ := k
    cases k1
    rw [Rep.det h2 k2, Reps.det h3 k3]
end
theorem SlotsR.det {S : So} : ∀ {o : List (Option M)} {en : En} {As As' : List (List Nat)}, SlotsR S o en As → SlotsR S o en As' → As = As'
  | [], en, As, As', h, k => by obtain ⟨_, rfl⟩ := h; obtain ⟨_, rfl⟩ := k; rfl
  | x :: o, en, As, As', h, k => by
    obtain ⟨e, r, A, Ar, rfl, rfl, h1, h2⟩ := h
    obtain ⟨e', r', A', Ar', q, rfl, k1, k2⟩ := k
    cases q
    have : A = A' := by
      cases x with
      | none => rw [show A = [] from h1, show A' = [] from k1]
      | some m =>
        obtain ⟨d, z1, z2⟩ := h1
        obtain ⟨d', w1, w2⟩ := k1
        rw [z1] at w1; cases w1
        exact z2.det w2
    rw [this, SlotsR.det h2 k2]
theorem EnvR.det {S : So} {env : Env} {en : En} {As As' : List (List Nat)} (h : EnvR S env en As) (k : EnvR S env en As') : As = As' := h.sl.det k.sl
/-! ### clearing names -/
theorem EnvR.clr {S : So} {env : Env} {en : En} {As : List (List Nat)} (h : EnvR S env en As) : ∀ vs : List Nat, ∃ As', EnvR S (env.clr vs) (wipeD en vs) As' ∧ (∀ a, As'.flatten.count a ≤ As.flatten.count a)
  | [] => ⟨As, h, fun _ => Nat.le_refl _⟩
  | v :: vs => by
    obtain ⟨As', h1, h2⟩ := EnvR.clr h vs
    refine ⟨As'.set v [], h1.put v (show SlotR S none none [] from rfl), fun a => ?_⟩
    have := count_set_le As' v [] a
    have := h2 a
    simp only [List.count_nil] at *
    omega
def Env.clr2 (e : Env) : List Nat → Env
  | [] => e
  | i :: vs => Env.clr2 (e.put i none) vs
theorem EnvR.clr2 {S : So} {en : En} : ∀ (vs : List Nat) {env : Env} {As : List (List Nat)}, EnvR S env (wipeD en vs) As → ∃ As', EnvR S (env.clr2 vs) en As' ∧ (∀ a, As'.flatten.count a ≤ As.flatten.count a)
  | [], env, As, h => ⟨As, h, fun _ => Nat.le_refl _⟩
  | v :: vs, env, As, h => by
    have h' : EnvR S env ((wipeD en vs).set v none) As := h
    have : EnvR S (env.put v none) (wipeD en vs) (As.set v []) := by
      cases hv : (wipeD en vs)[v]? with
      | none =>
        have hl := List.getElem?_eq_none_iff.mp hv
        rw [List.set_eq_of_length_le hl] at h'
        have := h'.put (x := none) (e := none) (A := []) v rfl
        rw [List.set_eq_of_length_le hl] at this
        exact this
      | some eo =>
        have := h'.put (x := none) (e := eo) (A := []) v rfl
        rw [clr_back hv] at this
        exact this
    obtain ⟨As', h1, h2⟩ := EnvR.clr2 vs this
    refine ⟨As', h1, fun a => ?_⟩
    have := count_set_le As v [] a
    have := h2 a
    simp only [List.count_nil] at *
    omega
theorem mem_of_count {A B : List Nat} (h : ∀ a, A.count a ≤ B.count a) {n : Nat} (hn : n ∈ A) : n ∈ B := List.count_pos_iff.mp (Nat.lt_of_lt_of_le (List.count_pos_iff.mpr hn) (h n))
section lc
variable {p x pc pf : Bool} {g : FG} {w : VG} {c : FT} {vc : VT} {f : FE} {vf : VE} {vs : List Nat} {fi : FI} {vi : VI}
/-- one turn, nothing changed -/
theorem lcP_turn (hg : SimO vs g w) (hc : SimT true c vc) (hf : SimE true true f vf) {d : D} {env : Env} {en : En} {S : So} {As : List (List Nat)} (he : EnvR S env en As) (nd : Nd As.flatten) (hd : nr d = true) {e1 : Env} (h1 : w (.val d) env = some e1) :
    ∃ en1, g d en S = some (en1, S) ∧ (∀ k e, vc e1 = .ok k e → ∃ J, c en1 S = .ok k (S ++ J) ∧ ∀ y e', vf e1 = .ok y e' → ∃ J' dy B, f en1 (S ++ J) = .ok dy (S ++ J ++ J') ∧ Rep (S ++ J ++ J') y dy B ∧ Nd B ∧ ∀ n ∈ B, (S ++ J).length ≤ n) := by
  have q := hg.run d env en S As he hd nd
  rw [h1] at q
  obtain ⟨en1, As1, g1, g2, g3, g4, g5⟩ := q
  refine ⟨en1, g1, fun k e hk => ?_⟩
  have qc := hc.run e1 en1 S As1 g2 g3
  rw [hk] at qc
  obtain ⟨b, S1, As2, B, c1, c2, ⟨rfl, rfl⟩, c4, c5, c6⟩ := qc
  obtain ⟨rfl, J, rfl⟩ := c6 rfl
  refine ⟨J, c1, fun y e' hy => ?_⟩
  have qf := hf.run e en1 (S ++ J) As1 g2.more g3
  rw [hy] at qf
  obtain ⟨dy, S2, As3, B, f1, f2, f3, f4, f5, f6⟩ := qf
  obtain ⟨rfl, J', rfl⟩ := f6 rfl
  have : As3 = As1 := f2.det (g2.more.more)
  subst this
  exact ⟨J', dy, B, f1, f3, f4.right, fun n hn => (f5.new n (by simp [hn])).elim (fun z => (f4.not z hn).elim) id⟩
/-- the turns over fixed items -/
theorem lcP_run (hg : SimO vs g w) (hc : SimT true c vc) (hf : SimE true true f vf) {env : Env} {en : En} {As : List (List Nat)} (nd : Nd As.flatten) {S0 : So} : ∀ (ds : List D) (acc : List M) (dacc : List D) (S : So) (B : List Nat) (out : List M), EnvR S env en As → nrs ds = true → Reps S acc dacc B → Nd B → (∀ n ∈ B, S0.length ≤ n) → (S0.length ≤ S.length) → lcP w vc vf env ds acc = some out →
    ∃ J dout B', lcL g c f en ds dacc S = .ok dout (S ++ J) ∧ Reps (S ++ J) out dout B' ∧ Nd B' ∧ ∀ n ∈ B', S0.length ≤ n
  | [], acc, dacc, S, B, out, he, hn, hr, nb, hb, hl, h => by
    simp only [lcP] at h; cases h
    exact ⟨[], dacc, B, by simp [lcL], by simpa using hr, nb, hb⟩
  | d :: ds, acc, dacc, S, B, out, he, hn, hr, nb, hb, hl, h => by
    simp only [nrs, Bool.and_eq_true] at hn
    unfold lcP at h
    cases hw : w (.val d) env with
    | none => rw [hw] at h; cases h
    | some e1 =>
      rw [hw] at h
      dsimp only at h
      obtain ⟨en1, t1, t2⟩ := lcP_turn hg hc hf he nd hn.1 hw
      cases hk : vc e1 with
      | no => rw [hk] at h; cases h
      | ex => rw [hk] at h; cases h
      | ok k e =>
        rw [hk] at h
        obtain ⟨J, c1, t3⟩ := t2 k e hk
        cases k with
        | false =>
          dsimp only at h
          obtain ⟨J', dout, B', r1, r2, r3, r4⟩ := lcP_run hg hc hf nd ds acc dacc (S ++ J) B out he.more hn.2 hr.more nb hb (by simp; omega) h
          refine ⟨J ++ J', dout, B', ?_, by rw [← List.append_assoc]; exact r2, r3, r4⟩
          rw [← List.append_assoc]
          simp [lcL, t1, c1, r1]
        | true =>
          dsimp only at h
          cases hy : vf e1 with
          | no => rw [hy] at h; cases h
          | ex => rw [hy] at h; cases h
          | ok y e' =>
            rw [hy] at h
            dsimp only at h
            split at h
            · rename_i hlen
              obtain ⟨J', dy, By, f1, f2, f3, f4⟩ := t3 y e' hy
              have hB : ∀ n ∈ B, n < S.length := hr.lt
              obtain ⟨J2, dout, B', r1, r2, r3, r4⟩ := lcP_run hg hc hf nd ds (acc ++ [y]) (dacc ++ [dy]) (S ++ J ++ J') (B ++ (By ++ [])) out he.more.more hn.2 (hr.more.more.append (Reps.cons f2 Reps.nil)) (nb.app (by simpa using f3) (fun n hn z => by
                  have := f4 n (by simpa using z)
                  have := hB n hn
                  simp at *; omega)) (fun n hn => by
                  simp only [List.append_nil, List.mem_append] at hn
                  rcases hn with hn | hn
                  · exact hb n hn
                  · have := f4 n hn; simp at this; omega) (by simp; omega) h
              refine ⟨J ++ J' ++ J2, dout, B', ?_, by simpa using r2, r3, r4⟩
              have hl2 : dacc.length < sizeLine := by rw [← hr.length]; exact lim_lt hlen
              simp only [lcL, t1, c1, bind_ok, if_true, f1, hl2, r1]
              simp
            · cases h
/-- the same over a list that stands -/
theorem lcP_runR (hg : SimO vs g w) (hc : SimT true c vc) (hf : SimE true true f vf) {env : Env} {en : En} {As : List (List Nat)} (nd : Nd As.flatten) {S0 : So} (n : Nat) (all : List D) (hna : nrs all = true) : ∀ (k i : Nat) (acc : List M) (dacc : List D) (S : So) (B : List Nat) (out : List M), all.length - i < k → S[n]? = some (.lst all) → EnvR S env en As → Reps S acc dacc B → Nd B → (∀ n ∈ B, S0.length ≤ n) → (S0.length ≤ S.length) → lcP w vc vf env (all.drop i) acc = some out →
    ∃ J dout B', lcR g c f en n k i dacc S = .ok dout (S ++ J) ∧ Reps (S ++ J) out dout B' ∧ Nd B' ∧ ∀ n ∈ B', S0.length ≤ n
  | 0, i, acc, dacc, S, B, out, hk, hS, he, hr, nb, hb, hl, h => by omega
  | k + 1, i, acc, dacc, S, B, out, hk, hS, he, hr, nb, hb, hl, h => by
    by_cases hi : i < all.length
    · rw [List.drop_eq_getElem_cons hi] at h
      have hd : nr all[i] = true := nrs_mem hna (List.getElem_mem hi)
      have hge : all[i]? = some all[i] := List.getElem?_eq_getElem hi
      have hSl := (List.getElem?_eq_some_iff.mp hS).1
      unfold lcP at h
      cases hw : w (.val all[i]) env with
      | none => rw [hw] at h; cases h
      | some e1 =>
        rw [hw] at h
        dsimp only at h
        obtain ⟨en1, t1, t2⟩ := lcP_turn hg hc hf he nd hd hw
        cases hk' : vc e1 with
        | no => rw [hk'] at h; cases h
        | ex => rw [hk'] at h; cases h
        | ok kk e =>
          rw [hk'] at h
          obtain ⟨J, c1, t3⟩ := t2 kk e hk'
          cases kk with
          | false =>
            dsimp only at h
            obtain ⟨J', dout, B', r1, r2, r3, r4⟩ := lcP_runR hg hc hf nd n all hna k (i + 1) acc dacc (S ++ J) B out (by omega) (by rw [get_app hSl]; exact hS) he.more hr.more nb hb (by simp; omega) h
            refine ⟨J ++ J', dout, B', ?_, by rw [← List.append_assoc]; exact r2, r3, r4⟩
            rw [← List.append_assoc]
            simp [lcR, hS, hge, t1, c1, r1]
          | true =>
            dsimp only at h
            cases hy : vf e1 with
            | no => rw [hy] at h; cases h
            | ex => rw [hy] at h; cases h
            | ok y e' =>
              rw [hy] at h
              dsimp only at h
              split at h
              · rename_i hlen
                obtain ⟨J', dy, By, f1, f2, f3, f4⟩ := t3 y e' hy
                have hB : ∀ n ∈ B, n < S.length := hr.lt
                obtain ⟨J2, dout, B', r1, r2, r3, r4⟩ := lcP_runR hg hc hf nd n all hna k (i + 1) (acc ++ [y]) (dacc ++ [dy]) (S ++ J ++ J') (B ++ (By ++ [])) out (by omega) (by rw [List.append_assoc, get_app hSl]; exact hS) he.more.more (hr.more.more.append (Reps.cons f2 Reps.nil)) (nb.app (by simpa using f3) (fun n hn z => by
                    have := f4 n (by simpa using z)
                    have := hB n hn
                    simp at *; omega)) (fun n hn => by
                    simp only [List.append_nil, List.mem_append] at hn
                    rcases hn with hn | hn
                    · exact hb n hn
                    · have := f4 n hn; simp at this; omega) (by simp; omega) h
                refine ⟨J ++ J' ++ J2, dout, B', ?_, by simpa using r2, r3, r4⟩
                have hl2 : dacc.length < sizeLine := by rw [← hr.length]; exact lim_lt hlen
                simp only [lcR, hS, hge, t1, c1, bind_ok, if_true, f1, hl2, r1]
                simp
              · cases h
    · rw [List.drop_of_length_le (by omega)] at h
      simp only [lcP] at h; cases h
      refine ⟨[], dacc, B, ?_, by simpa using hr, nb, hb⟩
      simp [lcR, hS, List.getElem?_eq_none (show all.length ≤ i by omega)]
def frzM (ms : List M) : Option M := (valsM ms).map fun ds => .val (.lst ds)
/-- a new list, frozen -/
def vLc (vs : List Nat) (vi : VI) (g : VG) (c : VT) (f : VE) : VE := fun env => (vi env).bind fun ds e => ofM ((lcP g c f (e.clr vs) ds []).bind frzM) e
/-- a new list that is owned -/
def vLcN (vs : List Nat) (vi : VI) (g : VG) (c : VT) (f : VE) : VE := fun env => (vi env).bind fun ds e => ofM ((lcP g c f (e.clr vs) ds []).map M.lst) e
theorem lc_key (hg : SimO vs g w) (hc : SimT true c vc) (hf : SimE true true f vf) {ds : List D} {t : ItD} {env : Env} {en : En} {S : So} {As : List (List Nat)} {A : List Nat} {out : List M} (he : EnvR S env en As) (r : RIt x S ds t A) (nd : Nd (As.flatten ++ A)) (hl : lcP w vc vf (env.clr vs) ds [] = some out) :
    ∃ J dout B', lcT 100000 g c f (wipeD en vs) t S = .ok dout (S ++ J) ∧ Reps (S ++ J) out dout B' ∧ Nd B' ∧ ∀ n ∈ B', S.length ≤ n := by
  obtain ⟨As', h1, h2⟩ := he.clr vs
  have nd' : Nd As'.flatten := nd.left.le h2
  obtain ⟨rfl, hn, ht⟩ := r
  rcases ht with rfl | ⟨_, hlen, n, rfl, hS⟩
  · exact lcP_run hg hc hf nd' ds [] [] S [] out h1 hn Reps.nil Nd.nil (by simp) (Nat.le_refl _) hl
  · exact lcP_runR hg hc hf nd' (S0 := S) n ds hn 100000 0 [] [] S [] out (by omega) hS h1 Reps.nil Nd.nil (by simp) (Nat.le_refl _) (by rw [List.drop_zero]; exact hl)
theorem se_lc (hi : SimF p x fi vi) (hg : SimO vs g w) (hc : SimT true c vc) (hf : SimE true true f vf) : SimE p true (fLc 100000 false vs fi g c f) (vLc vs vi w vc vf) := by
  have := SimR.bind (R2 := RE true) (p2 := true) (k := fun t en S1 => (noX (lcT 100000 g c f (wipeD en vs) t S1)).bind fun ds S2 => ofO (some (newL false ds S2))) (kv := fun ds e => ofM ((lcP w vc vf (e.clr vs) ds []).bind frzM) e) hi fun ds t env en S As A he r nd => by
    cases hl : lcP w vc vf (env.clr vs) ds [] with
    | none => exact trivial
    | some out =>
      show SimAt _ _ _ _ _ _ _ (ofM (frzM out) env)
      cases hm : valsM out with
      | none => unfold frzM; rw [hm]; exact trivial
      | some es =>
        obtain ⟨J, dout, B', r1, r2, r3, r4⟩ := lc_key hg hc hf he r nd hl
        rw [valsM_eq hm] at r2
        obtain ⟨rfl, h4, rfl⟩ := Reps.vals_of r2
        rw [r1]
        unfold frzM; rw [hm]
        exact SimAt.ok (B := []) he nd (fun n hn => by simp [hn]) (show Rep _ _ _ _ from Rep.val (by simpa [nr] using h4)) (by simpa using nd.left) (by simp)
  rw [Bool.and_true] at this
  exact this
theorem se_lcN (hi : SimF p x fi vi) (hg : SimO vs g w) (hc : SimT true c vc) (hf : SimE true true f vf) : SimE p true (fLc 100000 true vs fi g c f) (vLcN vs vi w vc vf) := by
  have := SimR.bind (R2 := RE true) (p2 := true) (k := fun t en S1 => (noX (lcT 100000 g c f (wipeD en vs) t S1)).bind fun ds S2 => ofO (some (newL true ds S2))) (kv := fun ds e => ofM ((lcP w vc vf (e.clr vs) ds []).map M.lst) e) hi fun ds t env en S As A he r nd => by
    cases hl : lcP w vc vf (env.clr vs) ds [] with
    | none => exact trivial
    | some out =>
      obtain ⟨J, dout, B', r1, r2, r3, r4⟩ := lc_key hg hc hf he r nd hl
      rw [r1]
      show SimAt (RE true) true S env en (As.flatten ++ A) (.ok (.ref (S ++ J).length) ((S ++ J) ++ [O.lst dout])) (.ok (.lst out) env)
      rw [List.append_assoc]
      have hlt : ∀ n ∈ B', n < (S ++ J).length := r2.lt
      refine SimAt.ok (B := (S ++ J).length :: B') he nd (fun n hn => by simp [hn]) ?_ ?_ ?_
      · show Rep _ _ _ _
        unfold Rep
        refine ⟨(S ++ J).length, dout, B', rfl, ?_, ?_, rfl⟩
        · rw [← List.append_assoc]; simp
        · rw [← List.append_assoc]; exact r2.more
      · have : Nd ((As.flatten ++ B') ++ [(S ++ J).length]) := (nd.left.app r3 fun n hn z => by
          have := he.lt n hn
          have := r4 n z
          omega).app (Nd.one _) fun n hn z => by
            simp only [List.mem_singleton] at z
            rcases List.mem_append.mp hn with hn | hn
            · have := he.lt n hn; simp at z; omega
            · have := hlt n hn; omega
        exact this.le fun a => by simp only [List.count_append, List.count_cons, List.count_nil]; omega
      · intro n hn
        rcases List.mem_cons.mp hn with rfl | hn
        · exact .inr (by simp)
        · exact .inr (r4 n hn)
  rw [Bool.and_true] at this
  exact this
/-- the turns may change what is owned -/
def lcE (g : VG) (c : VT) (f : VE) (vs : List Nat) : List D → List M → Env → Rv (List M)
  | [], acc, e => .ok acc e
  | d :: ds, acc, e => match g (.val d) e with
    | none => .no
    | some e1 => (c e1).bind fun k e2 => if k = true then (f e2).bind fun y e3 => if acc.length < 1000000 then lcE g c f vs ds (acc ++ [y]) (e3.clr vs) else .no else lcE g c f vs ds acc (e2.clr vs)
theorem lcE_run (hg : SimO vs g w) (hc : SimT pc c vc) (hf : SimE pf true f vf) {en : En} : ∀ (ds : List D) (acc : List M) (dacc : List D) (S : So) (env env' : Env) (As : List (List Nat)) (B : List Nat) (out : List M), EnvR S env en As → nrs ds = true → Reps S acc dacc B → Nd (As.flatten ++ B) → lcE w vc vf vs ds acc env = .ok out env' →
    ∃ S' dout As' B', lcL g c f en ds dacc S = .ok dout S' ∧ EnvR S' env' en As' ∧ Reps S' out dout B' ∧ Nd (As'.flatten ++ B') ∧ Fr S (As.flatten ++ B) S' (As'.flatten ++ B')
  | [], acc, dacc, S, env, env', As, B, out, he, hn, hr, nd, h => by
    simp only [lcE] at h; cases h
    exact ⟨S, dacc, As, B, rfl, he, hr, nd, Fr.refl⟩
  | d :: ds, acc, dacc, S, env, env', As, B, out, he, hn, hr, nd, h => by
    simp only [nrs, Bool.and_eq_true] at hn
    unfold lcE at h
    cases hw : w (.val d) env with
    | none => rw [hw] at h; cases h
    | some e1 =>
      rw [hw] at h
      dsimp only at h
      have q := hg.run d env en S As he hn.1 nd.left
      rw [hw] at q
      obtain ⟨en1, As1, g1, g2, g3, g4, g5⟩ := q
      have ndB : Nd (As1.flatten ++ B) := g3.app nd.right fun n hn z => nd.not (g4 n hn) z
      have fr0 : Fr S (As.flatten ++ B) S (As1.flatten ++ B) := ⟨Nat.le_refl _, fun _ _ _ => rfl, fun n hn => .inl (by
        rcases List.mem_append.mp hn with hn | hn
        · simp [g4 n hn]
        · simp [hn])⟩
      have qc := SimAt.hold (stab_reps (p := pc)) inl_reps (hc.run e1 en1 S As1 g2 g3) hr ndB
      cases hk : vc e1 with
      | no => rw [hk] at h; cases h
      | ex => rw [hk] at h; cases h
      | ok k e2 =>
        rw [hk] at h qc
        obtain ⟨b, S1, As2, B2, c1, c2, ⟨Ba, Bb, rfl, c3, rfl, rfl⟩, c4, c5, c6⟩ := qc
        rw [List.append_nil] at c4 c5
        cases b with
        | false =>
          have h' : lcE w vc vf vs ds acc (e2.clr vs) = .ok out env' := h
          obtain ⟨As3, z1, z2⟩ := g5 S1 e2 As2 c2 c4.left
          have nd3 : Nd (As3.flatten ++ Ba) := c4.le fun a => by have := z2 a; simp only [List.count_append]; omega
          obtain ⟨S', dout, As', B', r1, r2, r3, r4, r5⟩ := lcE_run hg hc hf ds acc dacc S1 (e2.clr vs) env' As3 Ba out z1 hn.2 c3 nd3 h'
          refine ⟨S', dout, As', B', ?_, r2, r3, r4, fr0.trans (c5.trans (Fr.trans ⟨Nat.le_refl _, fun _ _ _ => rfl, fun n hn => .inl ?_⟩ r5))⟩
          · simp [lcL, g1, c1, r1]
          · rcases List.mem_append.mp hn with hn | hn
            · simp [mem_of_count z2 hn]
            · simp [hn]
        | true =>
          have h' : ((vf e2).bind fun y e3 => if acc.length < 1000000 then lcE w vc vf vs ds (acc ++ [y]) (e3.clr vs) else .no) = .ok out env' := h
          have qf := SimAt.hold (stab_reps (p := pf)) inl_reps (hf.run e2 en1 S1 As2 c2 c4.left) c3 c4
          cases hy : vf e2 with
          | no => rw [hy] at h'; cases h'
          | ex => rw [hy] at h'; cases h'
          | ok y e3 =>
            rw [hy] at h' qf
            obtain ⟨dy, S2, As3, B3, f1, f2, ⟨Bc, Bd, rfl, f3, f3'⟩, f4, f5, f6⟩ := qf
            have h2 : (if acc.length < 1000000 then lcE w vc vf vs ds (acc ++ [y]) (e3.clr vs) else .no) = .ok out env' := h'
            split at h2
            · rename_i hlen
              obtain ⟨As4, z1, z2⟩ := g5 S2 e3 As3 f2 f4.left
              have nd4 : Nd (As4.flatten ++ (Bc ++ (Bd ++ []))) := f4.le fun a => by have := z2 a; simp only [List.count_append, List.count_nil]; omega
              obtain ⟨S', dout, As', B', r1, r2, r3, r4, r5⟩ := lcE_run hg hc hf ds (acc ++ [y]) (dacc ++ [dy]) S2 (e3.clr vs) env' As4 (Bc ++ (Bd ++ [])) out z1 hn.2 (f3.append (Reps.cons f3' Reps.nil)) nd4 h2
              refine ⟨S', dout, As', B', ?_, r2, r3, r4, fr0.trans (c5.trans (f5.trans (Fr.trans ⟨Nat.le_refl _, fun _ _ _ => rfl, fun n hn => .inl ?_⟩ r5)))⟩
              · have hl2 : dacc.length < sizeLine := by rw [← hr.length]; exact lim_lt hlen
                simp only [lcL, g1, c1, bind_ok, if_true, f1, hl2, r1]
              · simp only [List.append_nil, List.mem_append] at hn ⊢
                rcases hn with hn | hn
                · exact .inl (mem_of_count z2 hn)
                · exact .inr hn
            · cases h2
def vLcE (vs : List Nat) (vi : VI) (g : VG) (c : VT) (f : VE) (k : List M → Option M) : VE := fun env => (vi env).bind fun ds e => match lcE g c f vs ds [] (e.clr vs) with
  | .ok ms e' => ofM (k ms) (e'.clr2 vs)
  | _ => .no
theorem lcE_key (hg : SimO vs g w) (hc : SimT pc c vc) (hf : SimE pf true f vf) {ds : List D} {t : ItD} {env env' : Env} {en : En} {S : So} {As : List (List Nat)} {A : List Nat} {out : List M} (he : EnvR S env en As) (r : RIt true S ds t A) (nd : Nd (As.flatten ++ A)) (hl : lcE w vc vf vs ds [] (env.clr vs) = .ok out env') :
    ∃ S' dout As' B', lcT 100000 g c f (wipeD en vs) t S = .ok dout S' ∧ EnvR S' (env'.clr2 vs) en As' ∧ Reps S' out dout B' ∧ Nd (As'.flatten ++ B') ∧ Fr S (As.flatten ++ A) S' (As'.flatten ++ B') := by
  obtain ⟨As', h1, h2⟩ := he.clr vs
  have nd' : Nd As'.flatten := nd.left.le h2
  obtain ⟨rfl, hn, ht⟩ := r
  rcases ht with rfl | ⟨z, _⟩
  · obtain ⟨S', dout, As2, B', r1, r2, r3, r4, r5⟩ := lcE_run hg hc hf ds [] [] S (env.clr vs) env' As' [] out h1 hn Reps.nil (by simpa using nd') hl
    obtain ⟨As3, g1, g2⟩ := EnvR.clr2 vs r2
    refine ⟨S', dout, As3, B', r1, g1, r3, r4.le fun a => by have := g2 a; simp only [List.count_append]; omega, ⟨r5.len, fun n hl hn => r5.same n hl fun z => hn ?_, fun n hn => ?_⟩⟩
    · rw [List.append_nil] at z ⊢
      exact mem_of_count h2 z
    · have hn' : n ∈ As2.flatten ++ B' := by
        rcases List.mem_append.mp hn with hn | hn
        · simp [mem_of_count g2 hn]
        · simp [hn]
      rcases r5.new n hn' with q | q
      · rw [List.append_nil] at q ⊢
        exact .inl (mem_of_count h2 q)
      · exact .inr q
  · cases z
theorem se_lcE (hi : SimF p true fi vi) (hg : SimO vs g w) (hc : SimT pc c vc) (hf : SimE pf true f vf) : SimE false true (fLc 100000 false vs fi g c f) (vLcE vs vi w vc vf frzM) := by
  have := SimR.bind (R2 := RE true) (p2 := false) (k := fun t en S1 => (noX (lcT 100000 g c f (wipeD en vs) t S1)).bind fun ds S2 => ofO (some (newL false ds S2))) (kv := fun ds e => match lcE w vc vf vs ds [] (e.clr vs) with
    | .ok ms e' => ofM (frzM ms) (e'.clr2 vs)
    | _ => .no) hi fun ds t env en S As A he r nd => by
    cases hl : lcE w vc vf vs ds [] (env.clr vs) with
    | no => exact trivial
    | ex => exact trivial
    | ok out env' =>
      dsimp only
      cases hm : valsM out with
      | none => unfold frzM; rw [hm]; exact trivial
      | some es =>
        obtain ⟨S', dout, As', B', r1, r2, r3, r4, r5⟩ := lcE_key hg hc hf he r nd hl
        rw [valsM_eq hm] at r3
        obtain ⟨rfl, h4, rfl⟩ := Reps.vals_of r3
        rw [r1]
        unfold frzM; rw [hm]
        exact ⟨.lst dout, S', As', [], rfl, r2, (show Rep _ _ _ _ from Rep.val (by simpa [nr] using h4)), r4, r5, fun z => by cases z⟩
  rw [Bool.and_false] at this
  exact this
theorem se_lcEN (hi : SimF p true fi vi) (hg : SimO vs g w) (hc : SimT pc c vc) (hf : SimE pf true f vf) : SimE false true (fLc 100000 true vs fi g c f) (vLcE vs vi w vc vf fun ms => some (.lst ms)) := by
  have := SimR.bind (R2 := RE true) (p2 := false) (k := fun t en S1 => (noX (lcT 100000 g c f (wipeD en vs) t S1)).bind fun ds S2 => ofO (some (newL true ds S2))) (kv := fun ds e => match lcE w vc vf vs ds [] (e.clr vs) with
    | .ok ms e' => ofM (some (.lst ms)) (e'.clr2 vs)
    | _ => .no) hi fun ds t env en S As A he r nd => by
    cases hl : lcE w vc vf vs ds [] (env.clr vs) with
    | no => exact trivial
    | ex => exact trivial
    | ok out env' =>
      obtain ⟨S', dout, As', B', r1, r2, r3, r4, r5⟩ := lcE_key hg hc hf he r nd hl
      rw [r1]
      have q := new_at (p := false) (en := en) r2 r3 r4 r4 (fun n hn => .inl (by simp [hn]))
      obtain ⟨b, S2, As2, B2, q1, q2, q3, q4, q5, q6⟩ := q
      exact ⟨b, S2, As2, B2, q1, q2, q3, q4, r5.trans q5, fun z => by cases z⟩
  rw [Bool.and_false] at this
  exact this
end lc
end VF

namespace VF
open PySem L2 PF
variable [Tab]
section fns
/-! ### a def by its own body -/
def startV (n k : Nat) (ms : List M) : Env := ⟨ms.map some ++ List.replicate (k - n) none, []⟩
def runV (n k : Nat) (v : VS) : VN := fun ms => if ms.length = n then (match v (startV n k ms) with
  | .rt m e => .ok m (e.o.take n)
  | .nx e => .ok (.val .non) (e.o.take n)
  | .ex C e => .ex C (e.o.take n)
  | _ => .no) else .no
theorem slots_none {S : So} : ∀ n : Nat, SlotsR S (List.replicate n none) (List.replicate n none) (List.replicate n [])
  | 0 => ⟨rfl, rfl⟩
  | n + 1 => ⟨none, List.replicate n none, [], List.replicate n [], rfl, rfl, rfl, slots_none n⟩
theorem slots_start {S : So} (k : Nat) : ∀ {ms : List M} {ds : List D} {B : List Nat}, Reps S ms ds B → ∃ As, SlotsR S (ms.map some ++ List.replicate k none) (ds.map some ++ List.replicate k none) As ∧ As.flatten = B
  | [], ds, B, h => by
    unfold Reps at h
    obtain ⟨rfl, rfl⟩ := h
    refine ⟨List.replicate k [], slots_none k, ?_⟩
    rw [List.flatten_eq_nil_iff]
    intro l hl
    exact List.eq_of_mem_replicate hl
  | m :: ms, ds, B, h => by
    unfold Reps at h
    obtain ⟨d, r, B1, B2, rfl, h2, h3, rfl⟩ := h
    obtain ⟨As, h4, rfl⟩ := slots_start k h3
    exact ⟨B1 :: As, ⟨some d, _, B1, As, rfl, rfl, ⟨d, rfl, h2⟩, h4⟩, rfl⟩
theorem nsim_fn {q : Bool} {I : List Nat} {f : FS} {v : VS} {N : List Str} {n k : Nat} (h : SimS q I f v) (hk : N.length = k := by rfl) (hI : ∀ i ∈ I, i < n := by decide) : NSim q I (runF N f) (runV n k v) := ⟨fun ms ds S B r nd => by
  subst hk
  unfold runV
  by_cases hn : ms.length = n
  · rw [if_pos hn]
    have hd : ds.length = n := by rw [← r.length]; exact hn
    obtain ⟨As, h1, rfl⟩ := slots_start (N.length - n) r
    have he : EnvR S (startV n N.length ms) (startD N ds) As := ⟨by unfold startV startD; rw [hd]; exact h1, by intro t ht; cases ht⟩
    have q0 := h.run _ _ S As he nd
    have out : ∀ {S' : So} {e' : Env} {en' : En} {As' : List (List Nat)}, EnvR S' e' en' As' → Kp I (startD N ds) en' → OutR S' I ds (e'.o.take n) As' := fun {S' e' en' As'} g1 g2 j hj m hm => by
      have hjn := hI j hj
      rw [List.getElem?_take, if_pos hjn] at hm
      obtain ⟨d, A, z1, z2, z3⟩ := at_var g1 hm
      refine ⟨d, A, ?_, z2, z3⟩
      rw [g2 j hj] at z1
      unfold startD at z1
      rw [List.getElem?_append_left (by simpa [hd] using hjn), List.getElem?_map] at z1
      cases hx : ds[j]? with
      | none => rw [hx] at z1; cases z1
      | some y => rw [hx] at z1; simpa using z1
    cases hv : v (startV n N.length ms) with
    | no => exact trivial
    | bk e => exact trivial
    | ct e => exact trivial
    | nx e =>
      rw [hv] at q0
      obtain ⟨en', S', As', g1, g2, g3, g4, g5, g6⟩ := q0
      refine ⟨.non, S', As', [], by unfold runF; rw [g1], out g2 g5, Rep.val rfl, by simpa using g3, by simpa using g4, g6⟩
    | ex C e =>
      rw [hv] at q0
      obtain ⟨en', S', As', g1, g2, g3, g4, g5, g6⟩ := q0
      exact ⟨S', As', by unfold runF; rw [g1], out g2 g5, g3, g4, g6⟩
    | rt m e =>
      rw [hv] at q0
      obtain ⟨d, en', S', As', B, g1, g2, g3, g4, g5, g6, g7⟩ := q0
      exact ⟨d, S', As', B, by unfold runF; rw [g1], out g2 g6, g3, g4, g5, g7⟩
  · rw [if_neg hn]; exact trivial⟩
theorem run_len {n k : Nat} {v : VS} : ∀ ms : List M, ms.length ≠ n → runV n k v ms = .no := fun ms h => by unfold runV; rw [if_neg h]
/-- what is known in two ways -/
theorem NSim.sub {q : Bool} {I J : List Nat} {F : FN} {V : VN} (h : NSim q I F V) (k : ∀ i ∈ J, i ∈ I) : NSim q J F V := ⟨fun ms ds S B r nd => by
  have := h.run ms ds S B r nd
  cases hv : V ms with
  | no => exact trivial
  | ok m os =>
    rw [hv] at this
    obtain ⟨d, S', Bs, B', e1, e2, e3⟩ := this
    exact ⟨d, S', Bs, B', e1, fun j hj => e2 j (k j hj), e3⟩
  | ex C os =>
    rw [hv] at this
    obtain ⟨S', Bs, e1, e2, e3⟩ := this
    exact ⟨S', Bs, e1, fun j hj => e2 j (k j hj), e3⟩⟩
end fns
/-! ### errors -/
section errs
variable {I : List Nat} {p q q1 q2 x : Bool}
def vHandle (K : PySem.W.Frag) (C : Addr) : List (Addr × VS) → VS
  | [] => fun env => .ex C env
  | (C1, vs) :: r => fun env => match PySem.W.exmOne K (.ref C) (.ref C1) with
    | some true => vs env
    | some false => vHandle K C r env
    | none => .no
def vTry (K : PySem.W.Frag) (vb : VS) (hds : List (Addr × VS)) : VS := fun env => match vb env with
  | .ex C e1 => vHandle K C hds e1
  | o => o
inductive SimH (q : Bool) (I : List Nat) : List (Addr × FS) → List (Addr × VS) → Prop
  | nil : SimH q I [] []
  | cons {C : Addr} {f : FS} {v : VS} {l : List (Addr × FS)} {l' : List (Addr × VS)} (h : SimS q I f v) (t : SimH q I l l') : SimH q I ((C, f) :: l) ((C, v) :: l')
theorem ss_handle {K : PySem.W.Frag} {C : Addr} {l : List (Addr × FS)} {l' : List (Addr × VS)} (h : SimH q I l l') : SimS q I (handle K C l) (vHandle K C l') := by
  induction h with
  | nil => exact ⟨fun env en S As he nd => ⟨en, S, As, rfl, he, nd, Fr.refl, Kp.refl, Mo.refl⟩⟩
  | @cons C1 f v l l' h t ih =>
    refine ⟨fun env en S As he nd => ?_⟩
    unfold handle vHandle
    cases PySem.W.exmOne K (.ref C) (.ref C1) with
    | none => exact trivial
    | some b =>
      cases b with
      | true => exact h.run env en S As he nd
      | false => exact ih.run env en S As he nd
theorem ss_try {K : PySem.W.Frag} {fb : FS} {vb : VS} {l : List (Addr × FS)} {l' : List (Addr × VS)} (hb : SimS q1 I fb vb) (h : SimH q2 I l l') : SimS (q1 && q2) I (fTry K fb l) (vTry K vb l') := ⟨fun env en S As he nd => by
  have q0 := hb.run env en S As he nd
  have z1 : ∀ {b c : Bool}, (b && c) = true → b = true := fun z => by simp at z; exact z.1
  have z2 : ∀ {b c : Bool}, (b && c) = true → c = true := fun z => by simp at z; exact z.2
  unfold fTry vTry
  cases e : vb env with
  | ex C e1 =>
    rw [e] at q0
    obtain ⟨en', S', As', h1, h2, h3, h4, h5, h6⟩ := q0
    rw [h1]
    exact StP.later ((ss_handle h).run e1 en' S' As' h2 h3) h4 h5 h6 z1 z2
  | nx e1 => rw [e] at q0; have q' : StP (q1 && q2) _ _ _ _ _ (Vl.nx e1) := StP.imp q0 z1; obtain ⟨en', S', As', h1, _⟩ := q0; rw [h1] at q' ⊢; exact q'
  | bk e1 => rw [e] at q0; have q' : StP (q1 && q2) _ _ _ _ _ (Vl.bk e1) := StP.imp q0 z1; obtain ⟨en', S', As', h1, _⟩ := q0; rw [h1] at q' ⊢; exact q'
  | ct e1 => rw [e] at q0; have q' : StP (q1 && q2) _ _ _ _ _ (Vl.ct e1) := StP.imp q0 z1; obtain ⟨en', S', As', h1, _⟩ := q0; rw [h1] at q' ⊢; exact q'
  | rt m e1 => rw [e] at q0; have q' : StP (q1 && q2) _ _ _ _ _ (Vl.rt m e1) := StP.imp q0 z1; obtain ⟨d, en', S', As', B, h1, _⟩ := q0; rw [h1] at q' ⊢; exact q'
  | no => exact trivial⟩
/-- the suites of a try: nothing is raised in them -/
def quietV (v : VS) : VS := fun env => match v env with
  | .ex _ _ => .no
  | o => o
theorem ss_quiet {f : FS} {v : VS} (h : SimS q I f v) : SimS q I (quiet f) (quietV v) := ⟨fun env en S As he nd => by
  have q0 := h.run env en S As he nd
  unfold quiet quietV
  cases e : v env with
  | ex C e1 => exact trivial
  | nx e1 => rw [e] at q0; have q' := q0; obtain ⟨en', S', As', h1, _⟩ := q0; rw [h1] at q' ⊢; exact q'
  | bk e1 => rw [e] at q0; have q' := q0; obtain ⟨en', S', As', h1, _⟩ := q0; rw [h1] at q' ⊢; exact q'
  | ct e1 => rw [e] at q0; have q' := q0; obtain ⟨en', S', As', h1, _⟩ := q0; rw [h1] at q' ⊢; exact q'
  | rt m e1 => rw [e] at q0; have q' := q0; obtain ⟨d, en', S', As', B, h1, _⟩ := q0; rw [h1] at q' ⊢; exact q'
  | no => exact trivial⟩
/-- what is told of a call -/
def vTellX (K : PySem.W.Frag) (C : Addr) : List (Addr × D) → Env → Rv M
  | [], _ => .no
  | (C1, r) :: l, e => match PySem.W.exmOne K (.ref C) (.ref C1) with
    | some true => .ok (.val r) e
    | some false => vTellX K C l e
    | none => .no
def vTellR (K : PySem.W.Frag) (l : List (Addr × D)) (k : M → Env → Rv M) : Rv M → Rv M
  | .ok m e => k m e
  | .ex C e => vTellX K C l e
  | .no => .no
def vTell (K : PySem.W.Frag) (l : List (Addr × D)) (k : M → Env → Rv M) (vb : VE) : VE := fun env => vTellR K l k (vb env)
theorem tellX_at {K : PySem.W.Frag} {C : Addr} {S : So} {env : Env} {en : En} {As : List (List Nat)} (he : EnvR S env en As) (nd : Nd As.flatten) : ∀ {l : List (Addr × D)}, (∀ y ∈ l, nr y.2 = true) → SimAt (RE true) true S env en As.flatten (tellX K C l S) (vTellX K C l env)
  | [], h => trivial
  | (C1, r) :: l, h => by
    unfold tellX vTellX
    cases PySem.W.exmOne K (.ref C) (.ref C1) with
    | none => exact trivial
    | some b =>
      cases b with
      | true =>
        have := ok_dropG (R := RE true) (p := true) (B := []) (a := M.val r) (b := r) (en := en) he (by simpa using nd) (show Rep S _ _ _ from Rep.val (h (C1, r) (by simp)))
        rw [List.append_nil] at this
        exact this
      | false => exact tellX_at he nd fun y hy => h y (by simp [hy])
theorem se_tell {K : PySem.W.Frag} {l : List (Addr × D)} {fb : FE} {vb : VE} (h : SimE p true fb vb) (hl : ∀ y ∈ l, nr y.2 = true) : SimE p true (fTell K l (fun d S => .ok d S) fb) (vTell K l (fun m e => .ok m e) vb) := ⟨fun env en S As he nd => by
  have q0 := h.run env en S As he nd
  unfold fTell vTell
  cases e : vb env with
  | no => exact trivial
  | ok m e1 =>
    rw [e] at q0
    have q' := q0
    obtain ⟨b, S', As', B, h1, _⟩ := q0
    rw [h1] at q' ⊢
    exact q'
  | ex C e1 =>
    rw [e] at q0
    obtain ⟨S', As', h1, h2, h3, h4, h5⟩ := q0
    rw [h1]
    have t := tellX_at (K := K) (C := C) (en := en) h2 h3 hl
    show SimAt _ _ _ _ _ _ (tellX K C l S') (vTellX K C l e1)
    cases e2 : vTellX K C l e1 with
    | no => exact trivial
    | ex C' e3 =>
      rw [e2] at t
      obtain ⟨S2, As2, g1, g2, g3, g4, g5⟩ := t
      refine ⟨S2, As2, g1, g2, g3, h4.trans g4, fun z => ?_⟩
      obtain ⟨rfl, J, rfl⟩ := h5 z
      obtain ⟨rfl, J', rfl⟩ := g5 rfl
      exact ⟨rfl, J ++ J', by simp⟩
    | ok m e3 =>
      rw [e2] at t
      obtain ⟨b, S2, As2, B, g1, g2, g3, g4, g5, g6⟩ := t
      refine ⟨b, S2, As2, B, g1, g2, g3, g4, h4.trans g5, fun z => ?_⟩
      obtain ⟨rfl, J, rfl⟩ := h5 z
      obtain ⟨rfl, J', rfl⟩ := g6 rfl
      exact ⟨rfl, J ++ J', by simp⟩⟩
theorem se_tellC {K : PySem.W.Frag} {l : List (Addr × D)} {r : Bool} {fb : FE} {vb : VE} (h : SimE p x fb vb) (hl : ∀ y ∈ l, nr y.2 = true) : SimE p true (fTell K l (fun _ S => .ok (.bl r) S) fb) (vTell K l (fun _ e => .ok (.val (.bl r)) e) vb) := ⟨fun env en S As he nd => by
  have q0 := h.run env en S As he nd
  unfold fTell vTell
  cases e : vb env with
  | no => exact trivial
  | ok m e1 =>
    rw [e] at q0
    obtain ⟨b, S', As', B, h1, h2, h3, h4, h5, h6⟩ := q0
    rw [h1]
    exact ⟨.bl r, S', As', [], rfl, h2, (show Rep S' _ _ _ from Rep.val rfl), by simpa using h4.left, h5.sub (fun n hn => by simp at hn ⊢; exact .inl hn), h6⟩
  | ex C e1 =>
    rw [e] at q0
    obtain ⟨S', As', h1, h2, h3, h4, h5⟩ := q0
    rw [h1]
    have t := tellX_at (K := K) (C := C) (en := en) h2 h3 hl
    show SimAt _ _ _ _ _ _ (tellX K C l S') (vTellX K C l e1)
    cases e2 : vTellX K C l e1 with
    | no => exact trivial
    | ex C' e3 =>
      rw [e2] at t
      obtain ⟨S2, As2, g1, g2, g3, g4, g5⟩ := t
      refine ⟨S2, As2, g1, g2, g3, h4.trans g4, fun z => ?_⟩
      obtain ⟨rfl, J, rfl⟩ := h5 z
      obtain ⟨rfl, J', rfl⟩ := g5 rfl
      exact ⟨rfl, J ++ J', by simp⟩
    | ok m e3 =>
      rw [e2] at t
      obtain ⟨b, S2, As2, B, g1, g2, g3, g4, g5, g6⟩ := t
      refine ⟨b, S2, As2, B, g1, g2, g3, g4, h4.trans g5, fun z => ?_⟩
      obtain ⟨rfl, J, rfl⟩ := h5 z
      obtain ⟨rfl, J', rfl⟩ := g6 rfl
      exact ⟨rfl, J ++ J', by simp⟩⟩
end errs
end VF

namespace VF
open PySem L2 PF
variable [Tab]
section sub
variable {I : List Nat} {s p pa pb pc pd x xa xb xc xd : Bool} {fo fi fa fb fc fd : FE} {P : Pl} {vi va vb vc vd : VE}
/-- o[i] = v -/
def setAt (env : Env) (i : Nat) (p : List Stp) (k : Int) (m : M) : Option Env := match env.o[i]? with
  | some (some m0) => match m0.at p with
    | some (.lst ms) => match ixN ms.length k with
      | some j => some (env.up i (some (m0.wrs p (.lst (ms.set j m)))))
      | none => none
    | _ => none
  | _ => none
def tSub (P : Pl) (vi : VE) : VG := fun m env => match P env with
  | some (i, p) => match env.look i p with
    | some _ => match vi env with
      | .ok (.val (.int k)) e1 => setAt e1 i p k m
      | _ => none
    | none => none
  | none => none
theorem set_at {S : So} {env : Env} {en : En} {As : List (List Nat)} {i : Nat} {p : List Stp} {d0 d dv : D} {m : M} {B : List Nat} {k : Int} {e' : Env} (he : EnvR S env en As) (h0 : en[i]? = some (some d0)) (hp : PathR S p d0 d) (r : Rep S m dv B) (nd : Nd (As.flatten ++ B)) (h : setAt env i p k m = some e') :
    ∃ S' As', gSet d (.int k) dv S = some S' ∧ EnvR S' e' en As' ∧ Nd As'.flatten ∧ Fr S (As.flatten ++ B) S' As'.flatten := by
  unfold setAt at h
  split at h
  · rename_i m0 hm0
    split at h
    · rename_i ms hms
      split at h
      · rename_i j hj
        cases h
        obtain ⟨d0', A, g1, g2, g3⟩ := at_var he hm0
        rw [h0] at g1; cases g1
        obtain ⟨e, A1, A', A2, k1, rfl, k3, k4⟩ := at_rep g3 hms
        have := hp.det k1
        subst this
        obtain ⟨n, ds, Bl, rfl, w1, w2, rfl⟩ := rep_lst k3
        have hjl : j < ms.length := by
          have := hj
          unfold ixN at this
          split at this
          · split at this <;> cases this; omega
          · split at this <;> cases this; omega
        obtain ⟨dj, B1, Bj, B2, c1, rfl, c3, c4⟩ := Reps.at w2 (List.getElem?_eq_getElem hjl)
        have hcnt : ∀ a, (As.set i []).flatten.count a + (A1 ++ (n :: (B1 ++ Bj ++ B2)) ++ A2).count a = As.flatten.count a := fun a => by
          have := count_set As i _ [] a g2
          simpa using this
        have hndn : ∀ a, a ∈ As.flatten ++ B → True := fun _ _ => trivial
        have ndAll : Nd (n :: ((As.set i []).flatten ++ (A1 ++ A2 ++ (B1 ++ Bj ++ B2) ++ B))) := nd.le fun a => by
          have := hcnt a
          simp only [List.count_append, List.count_cons] at this ⊢
          omega
        have hnn := mem_nd ndAll
        have hnl : n < S.length := (List.getElem?_eq_some_iff.mp w1).1
        have fr : ∀ q, q ≠ n → (S.set n (.lst (ds.set j dv)))[q]? = S[q]? := fun q hq => List.getElem?_set_ne (fun z => hq z.symm)
        have ne : ∀ q, q ∈ (As.set i []).flatten ++ (A1 ++ A2 ++ (B1 ++ Bj ++ B2) ++ B) → q ≠ n := fun q hq z => hnn (z ▸ hq)
        have rep1 : Rep (S.set n (.lst (ds.set j dv))) (.lst (ms.set j m)) (.ref n) (n :: (B1 ++ B ++ B2)) := by
          unfold Rep
          refine ⟨n, ds.set j dv, B1 ++ B ++ B2, rfl, by rw [List.getElem?_set_self hnl], ?_, rfl⟩
          exact c4 _ m dv B (fun q hq => fr q (ne q (by simp only [List.mem_append] at hq ⊢; rcases hq with hq | hq <;> simp [hq]))) (r.frame fun q hq => fr q (ne q (by simp [hq])))
        have rep2 := k4 (S.set n (.lst (ds.set j dv))) (.lst (ms.set j m)) _ (fun q hq => fr q (ne q (by simp only [List.mem_append] at hq ⊢; rcases hq with hq | hq <;> simp [hq]))) rep1
        refine ⟨S.set n (.lst (ds.set j dv)), (As.set i []).set i (A1 ++ (n :: (B1 ++ B ++ B2)) ++ A2), ?_, ?_, ?_, ?_⟩
        · simp only [gSet, atL_ref w1]
          rw [← w2.length, hj]
        · have he0 : EnvR S (env.up i none) en (As.set i []) := he.up i h0 (show SlotR S none (some d0) [] from rfl)
          have he1 : EnvR (S.set n (.lst (ds.set j dv))) (env.up i none) en (As.set i []) := he0.frame fun q hq => fr q (ne q (by simp only [List.mem_append]; exact .inl hq))
          have he2 := he1.up i h0 (slot_some rep2)
          have ee : (env.up i none).up i (some (m0.wrs p (.lst (ms.set j m)))) = env.up i (some (m0.wrs p (.lst (ms.set j m)))) := by
            unfold Env.up Env.kill
            simp [List.set_set, List.filter_filter]
          rw [ee] at he2
          exact he2
        · exact ndAll.le fun a => by
            have h1 := count_set_le (As.set i []) i (A1 ++ (n :: (B1 ++ B ++ B2)) ++ A2) a
            simp only [List.count_append, List.count_cons] at h1 ⊢
            omega
        · refine ⟨by simp, fun q hl hq => fr q (fun z => hq ?_), fun q hq => .inl ?_⟩
          · subst z
            simp only [List.mem_append]
            exact .inl (List.mem_flatten.mpr ⟨_, List.mem_of_getElem? g2, by simp⟩)
          · have hA : ∀ q ∈ A1 ++ (n :: (B1 ++ Bj ++ B2)) ++ A2, q ∈ As.flatten := fun q hq => List.mem_flatten.mpr ⟨_, List.mem_of_getElem? g2, hq⟩
            rcases mem_set_flat hq with q1 | q1
            · exact List.mem_append.mpr (.inl ((mem_set_flat q1).elim id (by intro z; cases z)))
            · simp only [List.mem_append, List.mem_cons] at q1 ⊢
              rcases q1 with (q1 | q1 | (q1 | q1) | q1) | q1
              · exact .inl (hA q (by simp [q1]))
              · exact .inl (hA q (by simp [q1]))
              · exact .inl (hA q (by simp [q1]))
              · exact .inr q1
              · exact .inl (hA q (by simp [q1]))
              · exact .inl (hA q (by simp [q1]))
      · cases h
    · cases h
  · cases h
theorem sg_sub (hp : SimP s fo P) (hi : SimE pb x fi vi) (hx : (s || pb) = true := by rfl) : SimG false I (gtSub fo fi) (tSub P vi) := ⟨fun m dv B env en S As he r nd => by
  unfold tSub
  cases hP : P env with
  | none => exact trivial
  | some q =>
    obtain ⟨i, p⟩ := q
    dsimp only
    cases hl : env.look i p with
    | none => exact trivial
    | some y =>
      obtain ⟨J, d0, d, h1, h2, h3⟩ := hp.run env en S As i p y he nd.left hP hl
      dsimp only
      have q0 := SimAt.hold (R1 := RE true) (stab_rep pb) inl_re (a := m) (b := dv) (hi.run env en (S ++ J) As he.more nd.left) (show Rep _ _ _ _ from r.more (J := J)) nd
      cases hv : vi env with
      | no => exact trivial
      | ex => exact trivial
      | ok ki e1 =>
        rw [hv] at q0
        cases ki with
        | val kd =>
          cases kd with
          | int k =>
            obtain ⟨ik, S2, As2, B2, c1, c2, ⟨Ba, Bb, rfl, c3, c3'⟩, c4, c5, c6⟩ := q0
            have hk : ik = .int k := vwd_eq (re_val c3') (by simp)
            subst hk
            dsimp only
            cases hs : setAt e1 i p k m with
            | none => exact trivial
            | some e' =>
              have hp2 : PathR S2 p d0 d := by
                cases s with
                | true => rw [hp.nm rfl env i p hP] at h3 ⊢; exact h3
                | false =>
                  simp at hx
                  obtain ⟨_, J', rfl⟩ := c6 hx
                  exact h3.more.more
              obtain ⟨S', As', w1, w2, w3, w4⟩ := set_at c2 h2 hp2 c3 (c4.le fun a => by simp only [List.count_append]; omega) hs
              refine ⟨en, S', As', ?_, w2, w3, ?_, Kp.refl, Mo.no⟩
              · simp only [gtSub, h1, c1, w1]
              · have f1 : Fr S (As.flatten ++ B) (S ++ J) (As.flatten ++ B) := Fr.more
                exact (f1.trans (c5.sub fun n hn => by simp only [List.mem_append] at hn ⊢; rcases hn with hn | hn <;> simp [hn])).trans w4
          | _ => exact trivial
        | _ => exact trivial⟩
/-! ### slices, signs -/
def RO : So → Option Int → Option Int → List Nat → Prop := fun _ a b B => b = a ∧ B = []
abbrev VO := Env → Rv (Option Int)
abbrev SimQ (p : Bool) (f : FO) (v : VO) : Prop := SimR RO p f v
def vNoPart : VO := fun e => .ok none e
def asIm {α : Type} (m : M) (k : Int → Rv α) : Rv α := match m with
  | .val (.int i) => k i
  | _ => .no
def vPart (v : VE) : VO := fun env => (v env).bind fun m e => asIm m fun i => .ok (some i) e
theorem sq_none : SimQ true fNoPart vNoPart := ⟨fun env en S As he nd => by
  have := ok_dropG (R := RO) (p := true) (B := []) (a := none) (b := none) (en := en) he (by simpa using nd) ⟨rfl, rfl⟩
  rw [List.append_nil] at this
  exact this⟩
theorem at_int {α β : Type} {R : So → α → β → List Nat → Prop} {S : So} {env : Env} {en : En} {A : List Nat} {r : Rs β} {a : M} {k : Int → Rv α} (h : ∀ i, a = .val (.int i) → SimAt R p S env en A r (k i)) : SimAt R p S env en A r (asIm a k) := by
  cases a with
  | val d => cases d <;> first | exact trivial | exact h _ rfl
  | _ => exact trivial
theorem sq_some (h : SimE pa xa fa va) : SimQ pa (fPart fa) (vPart va) := by
  have := SimR.bind (R2 := RO) (p2 := true) (k := fun d en S1 => match d with
    | .int i => .ok (some i) S1
    | _ => .no) (kv := fun m e => asIm m fun i => .ok (some i) e) h fun a d env en S As B he r nd => by
    refine at_int fun i ha => ?_
    subst ha
    have : d = .int i := vwd_eq r.vw (by simp)
    subst this
    exact ok_dropG he nd ⟨rfl, rfl⟩
  rw [Bool.and_true] at this
  exact this
theorem stab_ro {p : Bool} : Stab RO p := fun S S' m d B r f _ => r
theorem inl_ro : InL RO := fun S m d B r n hn => by rw [r.2] at hn; cases hn
def liftS (a : M) (lo hi : Option Int) : Option M := match a with
  | .val y => (gSl false y lo hi []).map fun r => .val r.1
  | _ => none
def vSl (va : VE) (vl vh : VO) : VE := fun env => (va env).bind fun a e1 => (vl e1).bind fun lo e2 => (vh e2).bind fun hi e3 => ofM (liftS a lo hi) e3
theorem nrs_cut {xs : List D} {lo hi : Option Int} (h : nrs xs = true) : nrs (cutD xs lo hi) = true := nrs_sub h fun d hd => List.mem_of_mem_drop (List.mem_of_mem_take hd)
theorem sl_run {S : So} {a m : M} {d : D} {lo hi : Option Int} (ra : Vw S a d) (h : liftS a lo hi = some m) : ∃ r, m = .val r ∧ gSl false d lo hi S = some (r, S) ∧ nr r = true ∧ ∀ ds, r = .lst ds → gSl true d lo hi S = some (.ref S.length, S ++ [.lst ds]) := by
  cases a with
  | val y =>
    have hv : VwD S y d := ra
    have lx := ls_vw hv
    have hn := nr_vw hv
    simp only [liftS] at h
    cases hq : gSl false y lo hi [] with
    | none => rw [hq] at h; cases h
    | some r =>
      rw [hq] at h
      obtain ⟨r, T⟩ := r
      simp only [Option.map_some, Option.some.injEq] at h
      subst h
      refine ⟨r, rfl, ?_⟩
      cases y with
      | str z =>
        have := vwd_eq hv (by simp)
        subst this
        simp only [gSl] at hq ⊢
        split at hq
        · rename_i hc
          simp only [if_pos hc, Option.some.injEq, Prod.mk.injEq] at hq ⊢
          obtain ⟨rfl, _⟩ := hq
          exact ⟨⟨rfl, trivial⟩, rfl, by simp⟩
        · cases hq
      | tup xs =>
        have := vwd_eq hv (by simp)
        subst this
        simp only [gSl, Option.some.injEq, Prod.mk.injEq] at hq ⊢
        obtain ⟨rfl, _⟩ := hq
        exact ⟨⟨rfl, trivial⟩, by simp only [nr] at hn ⊢; exact nrs_cut hn, by simp⟩
      | scr ns =>
        have := vwd_eq hv (by simp)
        subst this
        simp only [gSl, newL_f, newL_t, Option.some.injEq, Prod.mk.injEq] at hq ⊢
        obtain ⟨rfl, _⟩ := hq
        exact ⟨⟨rfl, trivial⟩, by simp only [nr]; exact nrs_cut (nrs_ints _), by simp⟩
      | lst xs =>
        simp only [gSl, lsOf, newL_f, Option.some.injEq, Prod.mk.injEq] at hq
        obtain ⟨rfl, _⟩ := hq
        have lx' : lsOf S d = some xs := lx
        refine ⟨?_, by simp only [nr] at hn ⊢; exact nrs_cut hn, fun ds hds => ?_⟩
        · rcases hv with ⟨rfl, _⟩ | ⟨ds, n, e1, rfl, h3, _⟩
          · rfl
          · simp only [gSl, lx', newL_f]
        · cases hds
          rcases hv with ⟨rfl, _⟩ | ⟨ds, n, e1, rfl, h3, _⟩
          · simp [gSl, lsOf]
          · simp only [gSl, lx', newL_t]
      | non => simp [gSl, lsOf] at hq
      | bl _ => simp [gSl, lsOf] at hq
      | int _ => simp [gSl, lsOf] at hq
      | ref _ => simp [gSl, lsOf] at hq
  | _ => simp [liftS] at h
theorem sl_gen {mu : Bool} {fl fh : FO} {vl vh : VO} {kv : M → Option Int → Option Int → Option M} (ha : SimE pa xa fa va) (hl : SimQ pb fl vl) (hh : SimQ pc fh vh) (hx : (xa || (pb && pc)) = true)
    (fin : ∀ {a m : M} {d : D} {lo hi : Option Int} {S : So} {env : Env} {en : En} {As : List (List Nat)} {B : List Nat}, EnvR S env en As → Nd (As.flatten ++ B) → Vw S a d → kv a lo hi = some m → SimAt (RE true) true S env en (As.flatten ++ B) (ofO (gSl mu d lo hi S)) (.ok m env)) :
    SimE (pa && (pb && pc)) true (fSl mu fa fl fh) (fun env => (va env).bind fun a e1 => (vl e1).bind fun lo e2 => (vh e2).bind fun hi e3 => ofM (kv a lo hi) e3) :=
  SimR.bind ha fun a d env en S As B he r nd => by
    have hx1 : (xa || pb) = true := by cases xa <;> simp at hx ⊢; exact hx.1
    have hx2 : (xa || pc) = true := by cases xa <;> simp at hx ⊢; exact hx.2
    refine SimAt.map (p2 := pc) (R2 := RE true) (SimR.hold hl (stab_re hx1) inl_re he r nd) (k := fun lo S2 => (fh en S2).bind fun hi S3 => ofO (gSl mu d lo hi S3)) (kv := fun lo e2 => (vh e2).bind fun hi e3 => ofM (kv a lo hi) e3) fun lo lo' env1 S1 As1 B1 he1 r1 nd1 => ?_
    obtain ⟨B2, B3, rfl, r2, rfl, rfl⟩ := r1
    rw [List.append_nil] at nd1 ⊢
    have q := SimAt.map (p2 := true) (R2 := RE true) (SimR.hold hh (stab_re hx2) inl_re he1 r2 nd1) (k := fun hi S3 => ofO (gSl mu d lo' hi S3)) (kv := fun hi e3 => ofM (kv a lo' hi) e3) fun hi hi' env2 S2 As2 B4 he2 r3 nd2 => by
      obtain ⟨B5, B6, rfl, r4, rfl, rfl⟩ := r3
      cases hk : kv a lo' hi' with
      | none => exact trivial
      | some m => exact fin he2 nd2 r4.vw hk
    rw [Bool.and_true] at q
    exact q
theorem se_sl {fl fh : FO} {vl vh : VO} (ha : SimE pa xa fa va) (hl : SimQ pb fl vl) (hh : SimQ pc fh vh) (hx : (xa || (pb && pc)) = true := by rfl) : SimE (pa && (pb && pc)) true (fSl false fa fl fh) (vSl va vl vh) :=
  sl_gen ha hl hh hx fun he nd ra hk => by
    obtain ⟨r, rfl, h1, h2, _⟩ := sl_run ra hk
    rw [h1]
    exact ok_dropG he nd (show Rep _ _ _ _ from Rep.val h2)
def vSlN (va : VE) (vl vh : VO) : VE := fun env => (va env).bind fun a e1 => (vl e1).bind fun lo e2 => (vh e2).bind fun hi e3 => ofM ((liftS a lo hi).bind ownM) e3
theorem se_slN {fl fh : FO} {vl vh : VO} (ha : SimE pa xa fa va) (hl : SimQ pb fl vl) (hh : SimQ pc fh vh) (hx : (xa || (pb && pc)) = true := by rfl) : SimE (pa && (pb && pc)) true (fSl true fa fl fh) (vSlN va vl vh) :=
  sl_gen (kv := fun a lo hi => (liftS a lo hi).bind ownM) ha hl hh hx fun {a m d lo hi S env en As B} he nd ra hk => by
    cases hl : liftS a lo hi with
    | none => rw [hl] at hk; cases hk
    | some y =>
      rw [hl] at hk
      obtain ⟨r, rfl, h1, h2, h3⟩ := sl_run ra hl
      simp only [Option.bind_some] at hk
      unfold ownM at hk
      split at hk
      · rename_i ds heq
        cases heq; cases hk
        rw [h3 ds rfl]
        exact new_at he (Reps.vals (by simpa [nr] using h2)) nd (by simpa using nd.left) (by simp)
      · cases hk
def vNeg (v : VE) : VE := fun env => (v env).bind fun m e => asIm m fun i => .ok (.val (.int (-i))) e
theorem se_neg (h : SimE pa xa fa va) : SimE pa true (fNeg fa) (vNeg va) := by
  have := SimR.bind (R2 := RE true) (p2 := true) (k := fun d en S1 => match d with
    | .int i => .ok (.int (-i)) S1
    | _ => .no) (kv := fun m e => asIm m fun i => .ok (.val (.int (-i))) e) h fun a d env en S As B he r nd => by
    refine at_int fun i ha => ?_
    subst ha
    have : d = .int i := vwd_eq r.vw (by simp)
    subst this
    exact ok_dropG he nd (show Rep _ _ _ _ from Rep.val rfl)
  rw [Bool.and_true] at this
  exact this
def isiM (T : String) (m : M) : Option M := match m with
  | .val d => match tyN [] d with
    | some t => (kitB t T).map fun b => .val (.bl b)
    | none => none
  | _ => none
def vIsi (T : String) (v : VE) : VE := fun env => (v env).bind fun m e => ofM (isiM T m) e
theorem se_isi {T : String} (h : SimE pa xa fa va) : SimE pa true (fIsi T fa) (vIsi T va) := by
  have := SimR.bind (R2 := RE true) (p2 := true) (k := fun d en S1 => match tyN S1 d with
    | some t => match kitB t T with
      | some b => .ok (.bl b) S1
      | none => .no
    | none => .no) (kv := fun m e => ofM (isiM T m) e) h fun a d env en S As B he r nd => by
    cases a with
    | val y =>
      have hv : VwD S y d := r.vw
      rw [ty_vw hv]
      simp only [isiM]
      cases tyN [] y with
      | none => exact trivial
      | some t =>
        dsimp only
        cases kitB t T with
        | none => exact trivial
        | some b => exact ok_dropG he nd (show Rep _ _ _ _ from Rep.val rfl)
    | _ => exact trivial
  rw [Bool.and_true] at this
  exact this
/-- list(range(n)), tuple(range(n)) -/
def rgOk1 (n : Int) : Bool := decide (n ≤ 1000000) && decide (-1000000000 ≤ n)
theorem rgOk1_ok {n : Int} (h : rgOk1 n = true) : okRg 0 n = true := by
  simp only [rgOk1, Bool.and_eq_true, decide_eq_true_eq] at h
  simp only [okRg, Bool.and_eq_true, decide_eq_true_eq]
  refine ⟨⟨⟨⟨by omega, by omega⟩, by omega⟩, by omega⟩, by omega⟩
def vRgW (k : List D → M) (v : VE) : VE := fun env => (v env).bind fun m e => asIm m fun n => if rgOk1 n = true then .ok (k (rgD 0 n.toNat)) e else .no
theorem se_tupRg (h : SimE pa xa fa va) : SimE pa true (fTupRg1 fa) (vRgW (fun ds => .val (.tup ds)) va) := by
  have := SimR.bind (R2 := RE true) (p2 := true) (k := fun d en S1 => match d with
    | .int n => if okRg 0 n = true then .ok (.tup (rgD 0 (n - 0).toNat)) S1 else .no
    | _ => .no) (kv := fun m e => asIm m fun n => if rgOk1 n = true then .ok (.val (.tup (rgD 0 n.toNat))) e else .no) h fun a d env en S As B he r nd => by
    refine at_int fun n ha => at_if fun hn => ?_
    subst ha
    have : d = .int n := vwd_eq r.vw (by simp)
    subst this
    simp only [rgOk1_ok hn, if_true, Int.sub_zero]
    exact ok_dropG he nd (show Rep _ _ _ _ from Rep.val (by simp only [nr]; exact nrs_rg _ _))
  rw [Bool.and_true] at this
  exact this
theorem se_lstRg (h : SimE pa xa fa va) : SimE pa true (fLstRg1 false fa) (vRgW (fun ds => .val (.lst ds)) va) := by
  have := SimR.bind (R2 := RE true) (p2 := true) (k := fun d en S1 => match d with
    | .int n => if okRg 0 n = true then ofO (some (newL false (rgD 0 (n - 0).toNat) S1)) else .no
    | _ => .no) (kv := fun m e => asIm m fun n => if rgOk1 n = true then .ok (.val (.lst (rgD 0 n.toNat))) e else .no) h fun a d env en S As B he r nd => by
    refine at_int fun n ha => at_if fun hn => ?_
    subst ha
    have : d = .int n := vwd_eq r.vw (by simp)
    subst this
    simp only [rgOk1_ok hn, if_true, Int.sub_zero]
    exact ok_dropG he nd (show Rep _ _ _ _ from Rep.val (by simp only [nr]; exact nrs_rg _ _))
  rw [Bool.and_true] at this
  exact this
theorem se_lstRgN (h : SimE pa xa fa va) : SimE pa true (fLstRg1 true fa) (vRgW (fun ds => .lst (ds.map M.val)) va) := by
  have := SimR.bind (R2 := RE true) (p2 := true) (k := fun d en S1 => match d with
    | .int n => if okRg 0 n = true then ofO (some (newL true (rgD 0 (n - 0).toNat) S1)) else .no
    | _ => .no) (kv := fun m e => asIm m fun n => if rgOk1 n = true then .ok (.lst ((rgD 0 n.toNat).map M.val)) e else .no) h fun a d env en S As B he r nd => by
    refine at_int fun n ha => at_if fun hn => ?_
    subst ha
    have : d = .int n := vwd_eq r.vw (by simp)
    subst this
    simp only [rgOk1_ok hn, if_true, Int.sub_zero]
    exact new_at he (Reps.vals (nrs_rg _ _)) nd (by simpa using nd.left) (by simp)
  rw [Bool.and_true] at this
  exact this
theorem se_chain3 {g g' g'' : G2} (hg : OpV g) (hg' : OpV g') (hg'' : OpV g'') (ha : SimE pa xa fa va) (hb : SimE pb xb fb vb) (hc : SimE pc xc fc vc) (hd : SimE pd xd fd vd) (hx : (xa || pb) = true := by rfl) (hy : (xb || pc) = true := by rfl) (hz : (xc || pd) = true := by rfl) : SimE (pa && (pb && (pc && pd))) true (fChain3 g g' g'' fa fb fc fd) (vChain3 g g' g'' va vb vc vd) :=
  SimR.bind ha fun a y env en S As B he r nd => by
    refine SimAt.map (p2 := pc && pd) (R2 := RE true) (SimR.hold hb (stab_re hx) inl_re he r nd) (kv := fun b e2 => (ofM (liftG g a b) e2).bind fun z e3 => asBm z fun k => if k = true then (vc e3).bind fun c e4 => (ofM (liftG g' b c) e4).bind fun z e5 => asBm z fun k => if k = true then (vd e5).bind fun d e6 => ofM (liftG g'' c d) e6 else .ok (.val (.bl false)) e5 else .ok (.val (.bl false)) e3) fun b yb env1 S1 As1 B1 he1 r1 nd1 => ?_
    obtain ⟨B2, B3, rfl, r2, r3⟩ := r1
    cases hk : liftG g a b with
    | none => exact trivial
    | some m =>
      obtain ⟨r, rfl, e1, e2⟩ := lift_run hg r2.vw r3.vw hk
      rw [e1]
      refine at_bl fun k hkk => ?_
      cases hkk
      cases k with
      | false => exact ok_dropG he1 nd1 (re_bl true false)
      | true =>
        have nd2 : Nd (As1.flatten ++ B3) := nd1.le fun a => by simp only [List.count_append]; omega
        have q := SimAt.map (p2 := pd) (R2 := RE true) (SimR.hold hc (stab_re hy) inl_re he1 r3 nd2) (k := fun w S4 => (ofO (g' yb w S4)).bind fun z S5 => match z with
          | .bl k => if k = true then (fd en S5).bind fun w2 S6 => ofO (g'' w w2 S6) else .ok (.bl false) S5
          | _ => .no) (kv := fun c e4 => (ofM (liftG g' b c) e4).bind fun z e5 => asBm z fun k => if k = true then (vd e5).bind fun d e6 => ofM (liftG g'' c d) e6 else .ok (.val (.bl false)) e5) fun c yc env2 S2 As2 B4 he2 r4 nd4 => by
          obtain ⟨B5, B6, rfl, r5, r6⟩ := r4
          cases hk2 : liftG g' b c with
          | none => exact trivial
          | some m2 =>
            obtain ⟨r', rfl, e3, e4⟩ := lift_run hg' r5.vw r6.vw hk2
            rw [e3]
            refine at_bl fun k2 hkk2 => ?_
            cases hkk2
            cases k2 with
            | false => exact ok_dropG he2 nd4 (re_bl true false)
            | true =>
              have nd5 : Nd (As2.flatten ++ B6) := nd4.le fun a => by simp only [List.count_append]; omega
              exact (last_cmp hg'' hd hz he2 r6 nd5).wide fun n hn => by simp only [List.mem_append] at hn ⊢; rcases hn with hn | hn <;> simp [hn]
        exact q.wide fun n hn => by simp only [List.mem_append] at hn ⊢; rcases hn with hn | hn <;> simp [hn]
end sub
end VF

namespace VF
open PySem L2 PF
variable [Tab]
def vYes : VT := fun e => .ok true e
theorem st_yes : SimT true fYes vYes := sim_b true
section owned
variable {I : List Nat} {p q1 q2 : Bool} {f : FS} {v : VS} {fe : FE} {ve : VE}
/-- over a new list whose items are handed over -/
def forO (g : VG) (b : VS) : List M → VS
  | [] => fun env => .nx env
  | m :: ms => fun env => match g m env with
    | none => .no
    | some e1 => turnV (b e1) (forO g b ms)
def vForO (ve : VE) (g : VG) (b : VS) : VS := fun env => vthen (ve env) fun m e => match m with
  | .lst ms => if ms.length < 100000 then forO g b ms e else .no
  | _ => .no
theorem ss_forOr {gt : FG} {wt : VG} (hg : SimG q1 I gt wt) (hb : SimS q2 I f v) (n : Nat) (all : List D) : ∀ (k i : Nat) (ms : List M) (env : Env) (en : En) (S : So) (As : List (List Nat)) (B : List Nat), all.length - i < k → EnvR S env en As → S[n]? = some (.lst all) → Reps S ms (all.drop i) B → Nd (As.flatten ++ (n :: B)) → StP false I S en (As.flatten ++ (n :: B)) (forR gt f n k i en S) (forO wt v ms env)
  | 0, i, ms, env, en, S, As, B, hk, he, hS, hr, nd => by omega
  | k + 1, i, ms, env, en, S, As, B, hk, he, hS, hr, nd => by
    rw [forR_turn gt f n k i en S hS]
    cases ms with
    | nil =>
      unfold Reps at hr
      have hl : all.length ≤ i := List.drop_eq_nil_iff.mp hr.1
      rw [List.getElem?_eq_none hl]
      exact ⟨en, S, As, rfl, he, nd.left, Fr.refl.sub (fun n hn => by simp [hn]), Kp.refl, Mo.no⟩
    | cons m ms =>
      unfold Reps at hr
      obtain ⟨d, r, B1, B2, hd, h1, h2, rfl⟩ := hr
      have hi : i < all.length := by
        rcases Nat.lt_or_ge i all.length with h | h
        · exact h
        · rw [List.drop_of_length_le h] at hd; cases hd
      rw [List.drop_eq_getElem_cons hi] at hd
      simp only [List.cons.injEq] at hd
      obtain ⟨rfl, rfl⟩ := hd
      rw [List.getElem?_eq_getElem hi]
      have q := hg.run m all[i] B1 env en S As he h1 (nd.le fun a => by simp only [List.count_append, List.count_cons]; omega)
      unfold forO
      dsimp only
      cases e : wt m env with
      | none => exact trivial
      | some e1 =>
        rw [e] at q
        obtain ⟨en', S', As', w1, w2, w3, w4, w5, w6⟩ := q
        rw [w1]
        dsimp only
        have hSl := (List.getElem?_eq_some_iff.mp hS).1
        -- what is held stands as it was
        have held : ∀ x ∈ n :: B2, x < S.length ∧ x ∉ As.flatten ++ B1 := fun x hx => ⟨by
          rcases List.mem_cons.mp hx with rfl | hx
          · exact hSl
          · exact h2.lt x hx, fun z => by
          have hh : Nd ((As.flatten ++ B1) ++ (n :: B2)) := nd.le fun a => by simp only [List.count_append, List.count_cons]; omega
          exact hh.not z hx⟩
        have s1 : ∀ x ∈ n :: B2, S'[x]? = S[x]? := fun x hx => w4.same x (held x hx).1 (held x hx).2
        have held' : ∀ x ∈ n :: B2, x < S'.length ∧ x ∉ As'.flatten := fun x hx => ⟨Nat.lt_of_lt_of_le (held x hx).1 w4.len, fun z => (w4.new x z).elim (held x hx).2 (by have := (held x hx).1; omega)⟩
        have ndh : Nd (n :: B2) := nd.le fun a => by simp only [List.count_append, List.count_cons]; omega
        have fr0 : Fr S (As.flatten ++ (n :: (B1 ++ B2))) S' (As'.flatten ++ (n :: B2)) := ⟨w4.len, fun x hl hx => w4.same x hl (fun z => hx (by simp only [List.mem_append, List.mem_cons] at z ⊢; rcases z with z | z <;> simp [z])), fun x hx => by
          rcases List.mem_append.mp hx with hx | hx
          · exact (w4.new x hx).imp (fun z => by simp only [List.mem_append, List.mem_cons] at z ⊢; rcases z with z | z <;> simp [z]) id
          · exact .inl (by simp only [List.mem_append, List.mem_cons] at hx ⊢; rcases hx with hx | hx <;> simp [hx])⟩
        have bd := hb.run e1 en' S' As' w2 w3
        have wide : ∀ {r : Fl} {rv : Vl}, StP q2 I S' en' As'.flatten r rv → StP false I S en (As.flatten ++ (n :: (B1 ++ B2))) r rv := fun h => StP.later (q1 := false) (h.wide (A' := As'.flatten ++ (n :: B2)) fun x hx => by simp [hx]) fr0 w5 Mo.no (fun z => by cases z) (fun z => by cases z)
        have again : ∀ {e2 : Env} {en2 : En} {S2 : So} {As2 : List (List Nat)}, EnvR S2 e2 en2 As2 → Nd As2.flatten → Fr S' As'.flatten S2 As2.flatten → Kp I en' en2 → StP false I S en (As.flatten ++ (n :: (B1 ++ B2))) (forR gt f n k (i + 1) en2 S2) (forO wt v ms e2) := fun {e2 en2 S2 As2} g1 g2 g3 g4 => by
          have s2 : ∀ x ∈ n :: B2, S2[x]? = S[x]? := fun x hx => by rw [g3.same x (held' x hx).1 (held' x hx).2]; exact s1 x hx
          have nd2 : Nd (As2.flatten ++ (n :: B2)) := g2.app ndh fun x hx z => (g3.new x hx).elim (held' x z).2 (by have := (held' x z).1; omega)
          have ih := ss_forOr hg hb n all k (i + 1) ms e2 en2 S2 As2 B2 (by omega) g1 (by rw [s2 n (by simp)]; exact hS) (h2.frame fun x hx => s2 x (by simp [hx])) nd2
          refine StP.later (q1 := false) ih (fr0.trans ⟨g3.len, fun x hl hx => g3.same x hl (fun z => hx (by simp [z])), fun x hx => ?_⟩) (w5.trans g4) Mo.no (fun z => by cases z) (fun z => by cases z)
          rcases List.mem_append.mp hx with hx | hx
          · exact (g3.new x hx).imp (fun z => by simp [z]) id
          · exact .inl (by simp only [List.mem_append]; exact .inr hx)
        cases ev : v e1 with
        | no => exact trivial
        | nx e2 =>
          rw [ev] at bd
          obtain ⟨en2, S2, As2, b1, b2, b3, b4, b5, b6⟩ := bd
          rw [b1]
          exact again b2 b3 b4 b5
        | ct e2 =>
          rw [ev] at bd
          obtain ⟨en2, S2, As2, b1, b2, b3, b4, b5, b6⟩ := bd
          rw [b1]
          exact again b2 b3 b4 b5
        | bk e2 =>
          rw [ev] at bd
          obtain ⟨en2, S2, As2, b1, b2, b3, b4, b5, b6⟩ := bd
          rw [b1]
          exact wide (rv := .nx e2) ⟨en2, S2, As2, rfl, b2, b3, b4, b5, b6⟩
        | ex C e2 =>
          rw [ev] at bd
          obtain ⟨en2, S2, As2, b1, b2, b3, b4, b5, b6⟩ := bd
          rw [b1]
          exact wide (rv := .ex C e2) ⟨en2, S2, As2, rfl, b2, b3, b4, b5, b6⟩
        | rt mm e2 =>
          rw [ev] at bd
          obtain ⟨dd, en2, S2, As2, Br, b1, b2, b3, b4, b5, b6, b7⟩ := bd
          rw [b1]
          exact wide (rv := .rt mm e2) ⟨dd, en2, S2, As2, Br, rfl, b2, b3, b4, b5, b6, b7⟩
theorem ss_forO {gt : FG} {wt : VG} (he' : SimE p true fe ve) (hg : SimG q1 I gt wt) (hb : SimS q2 I f v) : SimS false I (fFor 100000 (fiSeq fe) gt f) (vForO ve wt v) := ⟨fun env en S As he nd => by
  have q := he'.run env en S As he nd
  unfold vForO
  cases hv : ve env with
  | no => exact trivial
  | ex C e =>
    rw [hv] at q
    obtain ⟨S', As', e1, e2, e3, e4, e5⟩ := q
    exact ⟨en, S', As', by simp [fFor, fiSeq, e1], e2, e3, e4, Kp.refl, Mo.no⟩
  | ok m e =>
    rw [hv] at q
    obtain ⟨b, S', As', B, e1, e2, e3, e4, e5, e6⟩ := q
    cases m with
    | lst ms =>
      show StP _ _ _ _ _ _ (if ms.length < 100000 then forO wt v ms e else .no)
      by_cases hl : ms.length < 100000
      · rw [if_pos hl]
        obtain ⟨n, ds, B', rfl, g1, g2, rfl⟩ := rep_lst (show Rep S' _ _ _ from e3)
        have : fFor 100000 (fiSeq fe) gt f en S = forR gt f n 100000 0 en S' := by simp [fFor, fiSeq, e1, iterOf, g1]
        rw [this]
        have r := ss_forOr hg hb n ds 100000 0 ms e en S' As' B' (by rw [← g2.length]; omega) e2 g1 (by simpa using g2) e4
        exact StP.later (q1 := false) r e5 Kp.refl Mo.no (fun z => by cases z) (fun z => by cases z)
      · rw [if_neg hl]; exact trivial
    | _ => exact trivial⟩
end owned
section bor
variable {c : FT} {vc : VT} {f : FE} {vf : VE}
/-- the name j looks at m, a part of what i owns -/
def Env.bor (env : Env) (j i : Nat) (m : M) : Env := ⟨env.o.set j none, (j, i, m) :: env.b.filter fun t => t.1 != j && t.2.1 != j⟩
theorem EnvR.bor {S : So} {env : Env} {en : En} {As : List (List Nat)} {j i : Nat} {m : M} {d : D} {A F : List Nat} (h : EnvR S env en As) (hj : j < en.length) (hij : i ≠ j) (r : Rep S m d A) (hF : As[i]? = some F) (hA : ∀ n ∈ A, n ∈ F) : EnvR S (env.bor j i m) (en.set j (some d)) (As.set j []) := by
  have h0 := h.put (x := none) (e := some d) (A := []) j rfl
  refine ⟨h0.sl, fun t ht => ?_⟩
  unfold Env.bor at ht
  rcases List.mem_cons.mp ht with rfl | ht
  · exact ⟨d, A, F, List.getElem?_set_self hj, r, by rw [List.getElem?_set_ne (fun q => hij q.symm)]; exact hF, hA⟩
  · exact h0.bo t ht
/-- the turns over the parts, looked at -/
def lcB (j i : Nat) (c : VT) (f : VE) (env : Env) : List M → List M → Option (List M)
  | [], acc => some acc
  | m :: ms, acc => match c (env.bor j i m) with
    | .ok true _ => match f (env.bor j i m) with
      | .ok y _ => if acc.length < 1000000 then lcB j i c f env ms (acc ++ [y]) else none
      | _ => none
    | .ok false _ => lcB j i c f env ms acc
    | _ => none
theorem lcB_run (hc : SimT true c vc) (hf : SimE true true f vf) {j i : Nat} {env : Env} {en : En} {As : List (List Nat)} (nd : Nd As.flatten) (hij : i ≠ j) (hj : j < en.length) {F : List Nat} (hF : As[i]? = some F) {S0 : So} (n : Nat) (all : List D) : ∀ (k a : Nat) (ms acc : List M) (dacc : List D) (S : So) (B Bm : List Nat) (out : List M), all.length - a < k → S[n]? = some (.lst all) → EnvR S env en As → Reps S ms (all.drop a) Bm → (∀ x ∈ Bm, x ∈ F) → Reps S acc dacc B → Nd B → (∀ x ∈ B, S0.length ≤ x) → S0.length ≤ S.length → lcB j i vc vf env ms acc = some out →
    ∃ J dout B', lcR (gtName j) c f en n k a dacc S = .ok dout (S ++ J) ∧ Reps (S ++ J) out dout B' ∧ Nd B' ∧ ∀ x ∈ B', S0.length ≤ x
  | 0, a, ms, acc, dacc, S, B, Bm, out, hk, hS, he, hm, hmF, hr, nb, hb, hl, h => by omega
  | k + 1, a, ms, acc, dacc, S, B, Bm, out, hk, hS, he, hm, hmF, hr, nb, hb, hl, h => by
    cases ms with
    | nil =>
      unfold Reps at hm
      have hl' : all.length ≤ a := List.drop_eq_nil_iff.mp hm.1
      simp only [lcB] at h; cases h
      refine ⟨[], dacc, B, ?_, by simpa using hr, nb, hb⟩
      simp [lcR, hS, List.getElem?_eq_none hl']
    | cons m ms =>
      unfold Reps at hm
      obtain ⟨d, r, B1, B2, hd, h1, h2, rfl⟩ := hm
      have hi : a < all.length := by
        rcases Nat.lt_or_ge a all.length with h | h
        · exact h
        · rw [List.drop_of_length_le h] at hd; cases hd
      rw [List.drop_eq_getElem_cons hi] at hd
      simp only [List.cons.injEq] at hd
      obtain ⟨rfl, rfl⟩ := hd
      have hge : all[a]? = some all[a] := List.getElem?_eq_getElem hi
      have hSl := (List.getElem?_eq_some_iff.mp hS).1
      have he1 : EnvR S (env.bor j i m) (en.set j (some all[a])) (As.set j []) := he.bor hj hij h1 hF (fun x hx => hmF x (by simp [hx]))
      have nd1 : Nd (As.set j []).flatten := nd.le fun x => by have := count_set_le As j [] x; simpa using this
      unfold lcB at h
      have qc := hc.run (env.bor j i m) _ S _ he1 nd1
      cases hkk : vc (env.bor j i m) with
      | no => rw [hkk] at h; cases h
      | ex => rw [hkk] at h; cases h
      | ok kk e =>
        rw [hkk] at h qc
        obtain ⟨b, S1, As2, Bq, c1, c2, ⟨rfl, rfl⟩, c4, c5, c6⟩ := qc
        obtain ⟨rfl, J, rfl⟩ := c6 rfl
        cases b with
        | false =>
          dsimp only at h
          obtain ⟨J', dout, B', r1, r2, r3, r4⟩ := lcB_run hc hf nd hij hj hF n all k (a + 1) ms acc dacc (S ++ J) B B2 out (by omega) (by rw [get_app hSl]; exact hS) he.more h2.more (fun x hx => hmF x (by simp [hx])) hr.more nb hb (by simp; omega) h
          refine ⟨J ++ J', dout, B', ?_, by rw [← List.append_assoc]; exact r2, r3, r4⟩
          rw [← List.append_assoc]
          simp [lcR, hS, hge, c1, r1]
        | true =>
          dsimp only at h
          have qf := hf.run (env.bor j i m) _ (S ++ J) _ he1.more nd1
          cases hy : vf (env.bor j i m) with
          | no => rw [hy] at h; cases h
          | ex => rw [hy] at h; cases h
          | ok y e' =>
            rw [hy] at h qf
            obtain ⟨dy, S2, As3, By, f1, f2, f3, f4, f5, f6⟩ := qf
            obtain ⟨rfl, J', rfl⟩ := f6 rfl
            have : As3 = As.set j [] := f2.det he1.more.more
            subst this
            dsimp only at h
            split at h
            · rename_i hlen
              have hBy : ∀ x ∈ By, (S ++ J).length ≤ x := fun x hx => (f5.new x (by simp [hx])).elim (fun z => (f4.not z hx).elim) id
              have hB : ∀ x ∈ B, x < S.length := hr.lt
              obtain ⟨J2, dout, B', r1, r2, r3, r4⟩ := lcB_run hc hf nd hij hj hF n all k (a + 1) ms (acc ++ [y]) (dacc ++ [dy]) (S ++ J ++ J') (B ++ (By ++ [])) B2 out (by omega) (by rw [List.append_assoc, get_app hSl]; exact hS) he.more.more h2.more.more (fun x hx => hmF x (by simp [hx])) (hr.more.more.append (Reps.cons f3 Reps.nil)) (nb.app (by simpa using f4.right) (fun x hx z => by
                  have := hBy x (by simpa using z)
                  have := hB x hx
                  simp at *; omega)) (fun x hx => by
                  simp only [List.append_nil, List.mem_append] at hx
                  rcases hx with hx | hx
                  · exact hb x hx
                  · have := hBy x hx; simp at this; omega) (by simp; omega) h
              refine ⟨J ++ J' ++ J2, dout, B', ?_, by simpa using r2, r3, r4⟩
              have hl2 : dacc.length < sizeLine := by rw [← hr.length]; exact lim_lt hlen
              simp only [lcR, hS, hge, gtName_eq, c1, bind_ok, if_true, f1, hl2, r1]
              simp
            · cases h
/-- [f for j in P], the items looked at -/
def vLcB (j : Nat) (P : Pl) (c : VT) (f : VE) : VE := fun env => match P env with
  | some (i, p) => match env.look i p with
    | some (.lst ms) => if ms.length < 100000 ∧ i ≠ j ∧ j < env.o.length then ofM ((lcB j i c f (env.clr [j]) ms []).bind frzM) env else .no
    | _ => .no
  | none => .no
theorem se_lcB {s : Bool} {fo : FE} {P : Pl} {j : Nat} (hp : SimP s fo P) (hc : SimT true c vc) (hf : SimE true true f vf) : SimE true true (fLc 100000 false [j] (fiSeq fo) (gtName j) c f) (vLcB j P vc vf) := ⟨fun env en S As he nd => by
  unfold vLcB
  cases hP : P env with
  | none => exact trivial
  | some q =>
    obtain ⟨i, p⟩ := q
    dsimp only
    cases hl : env.look i p with
    | none => exact trivial
    | some m =>
      cases m with
      | lst ms =>
        refine at_if fun hc' => ?_
        obtain ⟨hlen, hij, hjl⟩ := hc'
        obtain ⟨J, d0, d, h1, h2, h3⟩ := hp.run env en S As i p _ he nd hP hl
        obtain ⟨m0, d0', A, g1, g2, g3, g4, g5⟩ := look_rep he hl
        rw [h2] at g2; cases g2
        obtain ⟨e, A1, A', A2, k1, k2, k3, k4⟩ := at_rep g4 g5
        have := h3.det k1
        subst this
        obtain ⟨n, ds, Bm, rfl, w1, w2, rfl⟩ := rep_lst k3
        cases hb : lcB j i vc vf (env.clr [j]) ms [] with
        | none => exact trivial
        | some out =>
          show SimAt _ _ _ _ _ _ _ (ofM (frzM out) env)
          cases hm : valsM out with
          | none => unfold frzM; rw [hm]; exact trivial
          | some es =>
            have he1 : EnvR S (env.clr [j]) (wipeD en [j]) (As.set j []) := he.put j (show SlotR S none none [] from rfl)
            have nd1 : Nd (As.set j []).flatten := nd.le fun x => by have := count_set_le As j [] x; simpa using this
            have hlen2 := he.sl.len
            have hF : (As.set j [])[i]? = some A := by rw [List.getElem?_set_ne (fun q => hij q.symm)]; exact g3
            have hSl := (List.getElem?_eq_some_iff.mp w1).1
            have hjw : j < (wipeD en [j]).length := by simp [wipeD]; rw [hlen2.1]; exact hjl
            obtain ⟨J2, dout, B', r1, r2, r3, r4⟩ := lcB_run hc hf nd1 hij hjw hF (S0 := S ++ J) n ds 100000 0 ms [] [] (S ++ J) [] Bm out (by rw [← w2.length]; omega) (by rw [get_app hSl]; exact w1) he1.more (by simpa using w2.more (J := J)) (fun x hx => by rw [k2]; simp [hx]) Reps.nil Nd.nil (by simp) (Nat.le_refl _) hb
            rw [valsM_eq hm] at r2
            obtain ⟨rfl, h4, rfl⟩ := Reps.vals_of r2
            have hf' : fLc 100000 false [j] (fiSeq fo) (gtName j) c f en S = .ok (.lst dout) (S ++ J ++ J2) := by
              have hit : iterOf (S ++ J) (.ref n) = some (.live n) := by
                have : (S ++ J)[n]? = some (.lst ds) := by rw [get_app hSl]; exact w1
                simp [iterOf, this]
              simp only [fLc, fiSeq, h1, bind_ok, hit, ofI_some, lcT, r1, noX_ok, newL_f, ofO_some]
            rw [hf', List.append_assoc]
            unfold frzM; rw [hm]
            exact SimAt.ok (B := []) he nd (fun n hn => hn) (show Rep _ _ _ _ from Rep.val (by simpa [nr] using h4)) (by simpa using nd) (by simp)
      | _ => exact trivial⟩
end bor
end VF

namespace VF
open PySem L2 PF
variable [Tab]
section
variable {p x : Bool} {fe : FE} {ve : VE}
theorem nrs_enum : ∀ {xs : List D} (k : Nat), nrs xs = true → nrs (enumD k xs) = true
  | [], k, h => rfl
  | d :: xs, k, h => by
    simp only [nrs, Bool.and_eq_true] at h
    simp only [enumD, nrs, nr, Bool.and_true, Bool.and_eq_true]
    exact ⟨⟨trivial, h.1⟩, nrs_enum (k + 1) h.2⟩
def viEnum (ve : VE) : VI := fun env => (ve env).bind fun m e => match m with
  | .val (.lst xs) => .ok (enumD 0 xs) e
  | _ => .no
theorem sf_enum (h : SimE p true fe ve) : SimF p true (fiEnum (fCons fe fNil)) (viEnum ve) := ⟨fun env en S As he nd => by
  have q := h.run env en S As he nd
  unfold viEnum
  cases hv : ve env with
  | no => exact trivial
  | ex C e =>
    rw [hv] at q
    obtain ⟨S', As', e1, e2, e3, e4, e5⟩ := q
    exact ⟨S', As', by simp [fiEnum, fCons, e1], e2, e3, e4, e5⟩
  | ok m e =>
    rw [hv] at q
    obtain ⟨b, S', As', B, e1, e2, e3, e4, e5, e6⟩ := q
    cases m with
    | val d =>
      obtain ⟨rfl, h2, rfl⟩ := rep_val (show Rep S' _ _ _ from e3)
      cases b with
      | lst xs =>
        exact ⟨.items (enumD 0 xs), S', As', [], by simp [fiEnum, fCons, fNil, e1], e2, ⟨rfl, nrs_enum 0 (by simpa [nr] using h2), .inl rfl⟩, e4, e5, e6⟩
      | _ => exact trivial
    | _ => exact trivial⟩
end
/-! ### a, b = x, y where what is owned is handed over -/
section names
variable {I : List Nat} {p : Bool} {fa : FA} {va : VA}
def gtNames : List Nat → FGs
  | [] => gtNil
  | i :: is => gtCons (gtName i) (gtNames is)
def putAll : List Nat → List M → Env → Option Env
  | [], [], e => some e
  | i :: is, m :: ms, e => putAll is ms (e.put i (some m))
  | _, _, _ => none
def vAsgN (is : List Nat) (va : VA) : VS := fun env => vthen (va env) fun ms e => if ms.length ≤ 1000000 then vlG (putAll is ms e) else .no
theorem put_all {en0 : En} : ∀ (is : List Nat) (ms : List M) (ds : List D) (env e' : Env) (en : En) (S : So) (As : List (List Nat)) (B : List Nat), (∀ i ∈ is, i ∉ I) → EnvR S env en As → Reps S ms ds B → Nd (As.flatten ++ B) → Kp I en0 en → putAll is ms env = some e' →
    ∃ en' As', gtNames is ds en S = some (en', S) ∧ EnvR S e' en' As' ∧ (∀ a, As'.flatten.count a ≤ As.flatten.count a + B.count a) ∧ Kp I en0 en'
  | [], ms, ds, env, e', en, S, As, B, hi, he, hr, nd, hk, h => by
    cases ms with
    | nil =>
      simp only [putAll] at h; cases h
      unfold Reps at hr
      obtain ⟨rfl, rfl⟩ := hr
      exact ⟨en, As, rfl, he, fun a => by omega, hk⟩
    | cons m ms => simp [putAll] at h
  | i :: is, ms, ds, env, e', en, S, As, B, hi, he, hr, nd, hk, h => by
    cases ms with
    | nil => simp [putAll] at h
    | cons m ms =>
      simp only [putAll] at h
      unfold Reps at hr
      obtain ⟨d, r, B1, B2, rfl, h2, h3, rfl⟩ := hr
      have hcs : ∀ a, (As.set i B1).flatten.count a ≤ As.flatten.count a + B1.count a := fun a => count_set_le As i B1 a
      have hii : i ∉ I := hi i (by simp)
      obtain ⟨en', As', g1, g2, g3, g4⟩ := put_all is ms r (env.put i (some m)) e' (en.set i (some d)) S (As.set i B1) B2 (fun j hj => hi j (by simp [hj])) (he.put i (slot_some h2)) h3 (nd.le fun a => by have := hcs a; simp only [List.count_append]; omega) (hk.trans fun j hj => by rw [List.getElem?_set_ne (fun q => hii (by rw [q]; exact hj))]) h
      refine ⟨en', As', ?_, g2, fun a => ?_, g4⟩
      · simp only [gtNames, gtCons, gtName, g1]
      · have := hcs a
        have := g3 a
        simp only [List.count_append]; omega
theorem ss_asgN {is : List Nat} (hi : ∀ i ∈ is, i ∉ I) (h : SimA p fa va) : SimS (p && true) I (fAsg (fTup fa) (gtTup is.length (gtNames is))) (vAsgN is va) := ⟨fun env en S As he nd => by
  have q := h.run env en S As he nd
  unfold vAsgN
  cases hv : va env with
  | no => exact trivial
  | ex C e =>
    rw [hv] at q
    obtain ⟨S', As', e1, e2, e3, e4, e5⟩ := q
    exact ⟨en, S', As', by simp [fAsg, fTup, e1], e2, e3, e4, Kp.refl, fun z => (e5 (by simp at z; exact z)).2⟩
  | ok ms e =>
    rw [hv] at q
    obtain ⟨ds, S', As', B, e1, e2, e3, e4, e5, e6⟩ := q
    show StP _ _ _ _ _ _ (if ms.length ≤ 1000000 then vlG (putAll is ms e) else .no)
    by_cases hl : ms.length ≤ 1000000
    · rw [if_pos hl]
      cases hp : putAll is ms e with
      | none => exact trivial
      | some e' =>
        obtain ⟨en', As2, g1, g2, g3, g4⟩ := put_all (I := I) (en0 := en) is ms ds e e' en S' As' B hi e2 e3 e4 Kp.refl hp
        have hlen : ds.length = is.length := by
          rw [← e3.length]
          clear g1 g2 g3 g4 e3 e1 e2 e4 e5 e6 hv
          induction is generalizing ms e with
          | nil => cases ms with
            | nil => rfl
            | cons _ _ => simp [putAll] at hp
          | cons i is ih => cases ms with
            | nil => simp [putAll] at hp
            | cons m ms =>
              simp only [putAll] at hp
              have := ih (fun j hj => hi j (by simp [hj])) ms (e.put i (some m)) (by simp at hl; omega) hp
              simp [this]
        refine ⟨en', S', As2, ?_, g2, e4.le fun a => by have := g3 a; rw [List.count_append]; exact this, ⟨e5.len, e5.same, fun n hn => e5.new n ?_⟩, g4, fun z => (e6 (by simp at z; exact z)).2⟩
        · have hsz : ds.length ≤ sizeLine := lim_le (by rw [← e3.length]; exact hl)
          simp only [fAsg, fTup, e1, bind_ok, if_pos hsz, then_ok, gtTup_eq, if_pos hlen, g1, flG_some]
        · have : 0 < As'.flatten.count n + B.count n := Nat.lt_of_lt_of_le (List.count_pos_iff.mpr hn) (g3 n)
          rw [← List.count_append] at this
          exact List.count_pos_iff.mp this
    · rw [if_neg hl]; exact trivial⟩
end names
/-- places stand where the def gives them back -/
def plOk : List Bool → Nat → List Nat → Bool
  | [], _, _ => true
  | b :: r, k, I => (!b || I.contains k) && plOk r (k + 1) I
theorem pl_ok0 : ∀ (ks : List Bool) (k0 : Nat) (I : List Nat), plOk ks k0 I = true → ∀ k, ks[k]? = some true → k0 + k ∈ I
  | [], k0, I, h, k, e => by simp at e
  | b :: r, k0, I, h, 0, e => by
    simp only [plOk, Bool.and_eq_true] at h
    simp at e; subst e
    simpa using h.1
  | b :: r, k0, I, h, k + 1, e => by
    simp only [plOk, Bool.and_eq_true] at h
    have := pl_ok0 r (k0 + 1) I h.2 k (by simpa using e)
    rw [show k0 + (k + 1) = k0 + 1 + k by omega]; exact this
theorem pl_ok {ks : List Bool} {I : List Nat} (h : plOk ks 0 I = true) : ∀ k, ks[k]? = some true → k ∈ I := fun k e => by
  have := pl_ok0 ks 0 I h k e
  simpa using this
/-! ### from the law's value to its run -/
theorem law_of {F : FN} {V : VN} {q : Bool} {I : List Nat} (n : NSim q I F V) {ns : List Int} {os : List (Option M)} (h : V [.val (.scr ns)] = .ok (.val (.bl true)) os) : ∃ S', F [.scr ns] [] = .ok (.bl true) S' := by
  have := n.run [.val (.scr ns)] [.scr ns] [] [] (Reps.cons (A := []) (B := []) (Rep.val rfl) Reps.nil) Nd.nil
  rw [h] at this
  obtain ⟨d, S', Bs, B', e1, e2, e3, _⟩ := this
  obtain ⟨rfl, _, _⟩ := rep_val e3
  exact ⟨S', e1⟩
end VF
namespace VF
open PySem L2 PF
variable [Tab]
/-- what the law's def promises: of a script of at most 63 ints it tells True -/
def spL (K : PySem.W.Frag) : Sp := fun vs H Q _ => ∃ (a : Addr) (ns : List Int), vs = [.ref a] ∧ SqL K H a (ns.map V.int) ∧ ns.length ≤ 63 ∧ LamX.Tabs Tab.T H ∧ ∀ H', Q (.bl true) H'
theorem spL_of {K : PySem.W.Frag} {F : FN} (hF : ∀ ns : List Int, ns.length ≤ 63 → ∃ S, F [.scr ns] [] = .ok (.bl true) S) (vs : List V) (H : Hp) (Q : VK) (E : XK) (h : spL K vs H Q E) : spD K F 1 vs H Q E := by
  obtain ⟨a, ns, rfl, hS, hl, hT, hQ⟩ := h
  obtain ⟨h1, W, S, ds, h2, h3, h4⟩ := PF.law_start (K := K) (F := F) hF hl hS hT
  refine ⟨h1, W, S, ds, h2, h3, ?_⟩
  cases e : F ds S with
  | no => rw [e] at h4; exact h4
  | ok d S' =>
    rw [e] at h4
    intro W' H' b x s r
    rw [h4 W' H' b x s r]
    exact hQ H'
  | ex C S' =>
    rw [e] at h4
    intro W' H' d x s
    exact (h4 W' H' d x s).elim
end VF

namespace VF
open PySem L2 PF
variable [Tab]
/-! ### equations by which a text by values runs -/
section eqs
variable {α β : Type} {env e e1 : Env} {m a b : M} {d x y : D} {v va vb vc vd vf : VE} {t ta tb : VT} {w : VA} {i j : Nat}
theorem nq {α : Sort _} {a b : α} (h : a = b) : a = b := h
@[simp] theorem bv_ok (a : α) (k : α → Env → Rv β) : (Rv.ok a e).bind k = k a e := rfl
@[simp] theorem bv_ex (C : Addr) (k : α → Env → Rv β) : (Rv.ex C e).bind k = .ex C e := rfl
@[simp] theorem bv_no (k : α → Env → Rv β) : (Rv.no).bind k = .no := rfl
@[simp] theorem tv_ok (a : α) (k : α → Env → Vl) : vthen (.ok a e) k = k a e := rfl
@[simp] theorem tv_ex (C : Addr) (k : α → Env → Vl) : vthen (.ex C e : Rv α) k = .ex C e := rfl
@[simp] theorem tv_no (k : α → Env → Vl) : vthen .no k = .no := rfl
@[simp] theorem ofM_some : ofM (some m) e = .ok m e := rfl
@[simp] theorem ofM_none : ofM none e = .no := rfl
@[simp] theorem getO_some (k : M → Rv M) : getO (some (some m)) k = k m := rfl
@[simp] theorem isV_val : isV (.val d) e = .ok (.val d) e := rfl
@[simp] theorem vVar_eq : vVar i env = getO env.o[i]? fun m => isV m env := rfl
@[simp] theorem vLk_eq : vLk i env = getO env.o[i]? fun m => ofM (lookM m) env := rfl
@[simp] theorem vMv_eq : vMv i env = getO env.o[i]? fun m => .ok m (env.up i none) := rfl
@[simp] theorem lookM_val : lookM (.val d) = some (.val d) := rfl
@[simp] theorem lookM_lst (ms : List M) : lookM (.lst ms) = (valsM ms).map fun ds => .val (.lst ds) := by
  simp only [lookM]; cases valsM ms <;> rfl
@[simp] theorem valsM_vals (ds : List D) : valsM (ds.map M.val) = some ds := valsM_map ds
@[simp] theorem valsM_nil : valsM [] = some [] := rfl
@[simp] theorem valsM_cons (ms : List M) : valsM (.val d :: ms) = (valsM ms).map (d :: ·) := by
  simp only [valsM]; cases valsM ms <;> rfl
@[simp] theorem valsM_app (ds es : List D) : valsM (ds.map M.val ++ es.map M.val) = some (ds ++ es) := by rw [← List.map_append]; exact valsM_map _
@[simp] theorem valsM_snoc (ds : List D) : valsM (ds.map M.val ++ [.val d]) = some (ds ++ [d]) := valsM_app ds [d]
@[simp] theorem up_eq (o : List (Option M)) (z : Option M) : Env.up ⟨o, []⟩ i z = ⟨o.set i z, []⟩ := rfl
@[simp] theorem put_eq (o : List (Option M)) (z : Option M) : Env.put ⟨o, []⟩ i z = ⟨o.set i z, []⟩ := rfl
@[simp] theorem clr_nil : Env.clr e [] = e := rfl
@[simp] theorem clr_cons (vs : List Nat) : Env.clr e (i :: vs) = (Env.clr e vs).put i none := rfl
@[simp] theorem clr2_nil : Env.clr2 e [] = e := rfl
@[simp] theorem clr2_cons (vs : List Nat) : Env.clr2 e (i :: vs) = Env.clr2 (e.put i none) vs := rfl
@[simp] theorem vC_eq : vC d env = .ok (.val d) env := rfl
@[simp] theorem vEx_eq : vEx v env = (v env).bind fun m e => match m with
  | .val (.lst _) => .no
  | .val d => .ok (.val d) e
  | _ => .no := rfl
@[simp] theorem liftG_val (g : G2) : liftG g (.val x) (.val y) = (g x y []).map fun r => .val r.1 := rfl
@[simp] theorem vOp_eq (g : G2) : vOp g va vb env = (va env).bind fun a e1 => (vb e1).bind fun b e2 => ofM (liftG g a b) e2 := rfl
@[simp] theorem vOwn_eq : vOwn v env = (v env).bind fun m e => ofM (ownM m) e := rfl
@[simp] theorem ownM_lst (ds : List D) : ownM (.val (.lst ds)) = some (.lst (ds.map M.val)) := rfl
@[simp] theorem isBm_bl (k : Bool) : isBm (.val (.bl k)) e = .ok k e := rfl
@[simp] theorem vTst_eq : vTst v env = (v env).bind isBm := rfl
@[simp] theorem vTru_eq : vTru v env = (v env).bind isTm := rfl
@[simp] theorem isTm_bl (k : Bool) : isTm (.val (.bl k)) e = .ok k e := rfl
@[simp] theorem isTm_int (k : Int) : isTm (.val (.int k)) e = .ok (k != 0) e := rfl
@[simp] theorem isTm_lst (ds : List D) : isTm (.val (.lst ds)) e = .ok (!ds.isEmpty) e := rfl
@[simp] theorem isTm_tup (ds : List D) : isTm (.val (.tup ds)) e = .ok (!ds.isEmpty) e := rfl
@[simp] theorem isTm_non : isTm (.val .non) e = .ok false e := rfl
@[simp] theorem vNotT_eq : vNotT t env = (t env).bind fun k e => .ok (!k) e := rfl
@[simp] theorem vAndT_eq : vAndT ta tb env = (ta env).bind fun k e => if k = true then tb e else .ok false e := rfl
@[simp] theorem vOrT_eq : vOrT ta tb env = (ta env).bind fun k e => if k = true then .ok true e else tb e := rfl
@[simp] theorem vIf_eq : vIf t va vb env = (t env).bind fun k e => if k = true then va e else vb e := rfl
@[simp] theorem vIfT_eq {tc : VT} : vIfT tc ta tb env = (tc env).bind fun k e => if k = true then ta e else tb e := rfl
@[simp] theorem asBm_bl (k : Bool) (f : Bool → Rv M) : asBm (.val (.bl k)) f = f k := rfl
@[simp] theorem asIm_int (k : Int) (f : Int → Rv α) : asIm (.val (.int k)) f = f k := rfl
@[simp] theorem vAndV_eq : vAndV va vb env = (va env).bind fun m e => asBm m fun k => if k = true then vb e else .ok (.val (.bl false)) e := rfl
@[simp] theorem vOrV_eq : vOrV va vb env = (va env).bind fun m e => asBm m fun k => if k = true then .ok (.val (.bl true)) e else vb e := rfl
@[simp] theorem vNotV_eq : vNotV va env = (va env).bind fun m e => asBm m fun k => .ok (.val (.bl (!k))) e := rfl
@[simp] theorem vChain_eq (g g' : G2) : vChain g g' va vb vc env = (va env).bind fun a e1 => (vb e1).bind fun b e2 => (ofM (liftG g a b) e2).bind fun z e3 => asBm z fun k => if k = true then (vc e3).bind fun c e4 => ofM (liftG g' b c) e4 else .ok (.val (.bl false)) e3 := rfl
@[simp] theorem vChain3_eq (g g' g'' : G2) : vChain3 g g' g'' va vb vc vd env = (va env).bind fun a e1 => (vb e1).bind fun b e2 => (ofM (liftG g a b) e2).bind fun z e3 => asBm z fun k => if k = true then (vc e3).bind fun c e4 => (ofM (liftG g' b c) e4).bind fun z e5 => asBm z fun k => if k = true then (vd e5).bind fun d e6 => ofM (liftG g'' c d) e6 else .ok (.val (.bl false)) e5 else .ok (.val (.bl false)) e3 := rfl
@[simp] theorem vNil_eq : vNil env = .ok [] env := rfl
@[simp] theorem vCons_eq : vCons v w env = (v env).bind fun m e => (w e).bind fun ms e2 => .ok (m :: ms) e2 := rfl
@[simp] theorem liftA_eq (g : GA) (ms : List M) : liftA g ms = (valsM ms).bind fun xs => (g xs []).map fun r => .val r.1 := by
  unfold liftA; cases valsM ms <;> rfl
@[simp] theorem vCB_eq (g : GA) : vCB g w env = (w env).bind fun ms e => ofM (liftA g ms) e := rfl
@[simp] theorem vTup_eq : vTup w env = (w env).bind fun ms e => match valsM ms with
  | some ds => if ds.length ≤ 1000000 then .ok (.val (.tup ds)) e else .no
  | none => .no := rfl
@[simp] theorem vLst_eq : vLst w env = (w env).bind fun ms e => match valsM ms with
  | some ds => if ds.length ≤ 1000000 then .ok (.val (.lst ds)) e else .no
  | none => .no := rfl
@[simp] theorem vLstN_eq : vLstN w env = (w env).bind fun ms e => if ms.length ≤ 1000000 then .ok (.lst ms) e else .no := rfl
@[simp] theorem vNoPart_eq : vNoPart env = .ok none env := rfl
@[simp] theorem vPart_eq : vPart v env = (v env).bind fun m e => asIm m fun i => .ok (some i) e := rfl
@[simp] theorem liftS_val (lo hi : Option Int) : liftS (.val x) lo hi = (gSl false x lo hi []).map fun r => .val r.1 := rfl
@[simp] theorem vSl_eq {vl vh : VO} : vSl va vl vh env = (va env).bind fun a e1 => (vl e1).bind fun lo e2 => (vh e2).bind fun hi e3 => ofM (liftS a lo hi) e3 := rfl
@[simp] theorem vSlN_eq {vl vh : VO} : vSlN va vl vh env = (va env).bind fun a e1 => (vl e1).bind fun lo e2 => (vh e2).bind fun hi e3 => ofM ((liftS a lo hi).bind ownM) e3 := rfl
@[simp] theorem vNeg_eq : vNeg v env = (v env).bind fun m e => asIm m fun i => .ok (.val (.int (-i))) e := rfl
@[simp] theorem vIsi_eq (T : String) : vIsi T v env = (v env).bind fun m e => ofM (isiM T m) e := rfl
@[simp] theorem isiM_val (T : String) : isiM T (.val d) = match tyN [] d with
  | some t => (kitB t T).map fun b => .val (.bl b)
  | none => none := rfl
@[simp] theorem vRgW_eq (k : List D → M) : vRgW k v env = (v env).bind fun m e => asIm m fun n => if rgOk1 n = true then .ok (k (rgD 0 n.toNat)) e else .no := rfl
/-! calls -/
@[simp] theorem rnV_ok (os : List (Option M)) : rnV (.ok m os) e = .ok m e := rfl
@[simp] theorem rnV_ex (C : Addr) (os : List (Option M)) : rnV (.ex C os) e = .ex C e := rfl
@[simp] theorem vCallV_eq (V : VN) : vCallV V w env = (w env).bind fun ms e => match valsM ms with
  | some _ => rnV (V ms) e
  | none => .no := rfl
@[simp] theorem wNil_eq : wNil env = .ok [] env := rfl
@[simp] theorem wTm_eq {w : Env → Rv (List Ar)} : wTm v w env = (v env).bind fun m e => (w e).bind fun its e2 => .ok (.tm m :: its) e2 := rfl
def plK (o : Option (Nat × List Stp)) (env : Env) (k : Nat → List Stp → M → Rv α) : Rv α := match o with
  | some (i, p) => match env.look i p with
    | some m => k i p m
    | none => .no
  | none => .no
@[simp] theorem plK_some (p : List Stp) (k : Nat → List Stp → M → Rv α) : plK (some (i, p)) env k = match env.look i p with
    | some m => k i p m
    | none => .no := rfl
@[simp] theorem wPl_eq {P : Pl} {w : Env → Rv (List Ar)} : wPl P w env = plK (P env) env fun i p _ => (w env).bind fun its e2 => .ok (.pl i p :: its) e2 := by
  unfold wPl plK
  cases P env with
  | none => rfl
  | some q => obtain ⟨i, p⟩ := q; dsimp only <;> cases env.look i p <;> rfl
@[simp] theorem pVar_eq : pVar i env = some (i, []) := rfl
def lookO (o : Option (Option M)) (p : List Stp) : Option M := match o with
  | some (some m) => m.at p
  | _ => none
@[simp] theorem look_eq (p : List Stp) : env.look i p = lookO env.o[i]? p := rfl
@[simp] theorem lookO_some (p : List Stp) : lookO (some (some m)) p = m.at p := rfl
@[simp] theorem at_nil : M.at [] m = some m := rfl
@[simp] theorem wrs_nil (m2 : M) : M.wrs [] m m2 = m2 := rfl
@[simp] theorem at_ix (ms : List M) (p : List Stp) : M.at (.ix j :: p) (.lst ms) = (ms[j]?).bind (M.at p) := by
  simp only [M.at, M.sub]; cases ms[j]? <;> rfl
@[simp] theorem at_fld (C : Addr) (k : Nat) (s : Str) (ns : List Str) (ms : List M) (p : List Stp) : M.at (.fld C k s :: p) (.ins C ns ms) = if ns[k]? = some s then (ms[k]?).bind (M.at p) else none := by
  simp only [M.at, M.sub, true_and]
  by_cases h : ns[k]? = some s
  · simp only [h, if_true]; cases ms[k]? <;> rfl
  · simp only [h, if_false]
@[simp] theorem pIx_eq {P : Pl} : pIx P v env = match P env with
  | some (i, p) => match env.look i p, v env with
    | some (.lst ms), .ok (.val (.int k)) _ => match ixN ms.length k with
      | some j => some (i, p ++ [.ix j])
      | none => none
    | _, _ => none
  | none => none := rfl
@[simp] theorem vGet_eq {P : Pl} : vGet P env = plK (P env) env fun _ _ m => ofM (lookM m) env := by
  unfold vGet plK
  cases P env with
  | none => rfl
  | some q => obtain ⟨i, p⟩ := q; dsimp only <;> cases env.look i p <;> rfl
@[simp] theorem vCall_eq (V : VN) {w : Env → Rv (List Ar)} : vCall V w env = (w env).bind fun its e => crV (callG V 0 its [] e) := rfl
@[simp] theorem vCallR_eq (V : VN) {w : Env → Rv (List Ar)} : vCallR V w env = (w env).bind fun its e => match callG V 0 its [] e with
  | .ok (.val d) _ _ => .ok (.val d) e
  | .ex C _ _ => .ex C e
  | _ => .no := rfl
@[simp] theorem crV_ok (os : List (Option M)) : crV (.ok m os e) = .ok m e := rfl
@[simp] theorem crV_ex (C : Addr) (os : List (Option M)) : crV (.ex C os e) = .ex C e := rfl
@[simp] theorem backO_some (os : List (Option M)) (k : M → Cr) (h : os[j]? = some (some m)) : backO os j k = k m := by unfold backO; rw [h]
def rnC (r : Rn) (e : Env) : Cr := match r with
  | .ok m os => .ok m os e
  | .ex C os => .ex C os e
  | .no => .no
@[simp] theorem rnC_ok (os : List (Option M)) : rnC (.ok m os) e = .ok m os e := rfl
@[simp] theorem rnC_ex (C : Addr) (os : List (Option M)) : rnC (.ex C os) e = .ex C os e := rfl
@[simp] theorem callG_nil (V : VN) (acc : List M) : callG V j [] acc e = rnC (V acc) e := rfl
@[simp] theorem callG_tm (V : VN) (r : List Ar) (acc : List M) : callG V j (.tm m :: r) acc e = callG V (j + 1) r (acc ++ [m]) e := rfl
/-- behind the lent place i, p of m0 -/
def crB (j i : Nat) (p : List Stp) (m0 : M) : Cr → Cr
  | .ok m os e1 => backO os j fun m2 => .ok m os (e1.up i (some (m0.wrs p m2)))
  | .ex C os e1 => backO os j fun m2 => .ex C os (e1.up i (some (m0.wrs p m2)))
  | .no => .no
@[simp] theorem crB_ok (p : List Stp) (m0 : M) (os : List (Option M)) : crB j i p m0 (.ok m os e1) = backO os j fun m2 => .ok m os (e1.up i (some (m0.wrs p m2))) := rfl
@[simp] theorem crB_ex (p : List Stp) (m0 : M) (C : Addr) (os : List (Option M)) : crB j i p m0 (.ex C os e1) = backO os j fun m2 => .ex C os (e1.up i (some (m0.wrs p m2))) := rfl
theorem callG_pl (V : VN) (p : List Stp) (r : List Ar) (acc : List M) {m0 m' : M} (h : e.o[i]? = some (some m0)) (h2 : m0.at p = some m') : callG V j (.pl i p :: r) acc e = crB j i p m0 (callG V (j + 1) r (acc ++ [m']) (e.up i none)) := by
  rw [callG, h]; dsimp only; rw [h2]; dsimp only
  cases callG V (j + 1) r (acc ++ [m']) (e.up i none) <;> rfl
/-- with a place, in one go -/
def atO (o : Option (Option M)) (p : List Stp) (k : M → M → Cr) : Cr := match o with
  | some (some m0) => match m0.at p with
    | some m' => k m0 m'
    | none => .no
  | _ => .no
@[simp] theorem atO_some (p : List Stp) (k : M → M → Cr) : atO (some (some m)) p k = match m.at p with
    | some m' => k m m'
    | none => .no := rfl
@[simp] theorem callG_plO (V : VN) (p : List Stp) (r : List Ar) (acc : List M) : callG V j (.pl i p :: r) acc e = atO e.o[i]? p fun m0 m' => crB j i p m0 (callG V (j + 1) r (acc ++ [m']) (e.up i none)) := by
  rw [callG]
  cases e.o[i]? with
  | none => rfl
  | some o =>
    cases o with
    | none => rfl
    | some m0 =>
      simp only [atO_some]
      cases m0.at p with
      | none => rfl
      | some m' => dsimp only; cases callG V (j + 1) r (acc ++ [m']) (e.up i none) <;> rfl
@[simp] theorem vMut_eq (T : String) (V : VN) {P : Pl} {wa : VA} : vMut T V P wa env = plK (P env) env fun i p m => if tyM m = T then (wa env).bind fun ms e => crV (callG V 0 (.pl i p :: ms.map Ar.tm) [] e) else .no := by
  unfold vMut plK
  cases P env with
  | none => rfl
  | some q => obtain ⟨i, p⟩ := q; dsimp only <;> cases env.look i p <;> rfl
@[simp] theorem tyM_lst (ms : List M) : tyM (.lst ms) = "list" := rfl
@[simp] theorem V_append_eq (xs : List M) : V_append [.lst xs, m] = if xs.length < 1000000 then .ok (.val .non) [some (.lst (xs ++ [m]))] else .no := nq rfl
/-! statements -/
@[simp] theorem vNext_eq : vNext env = .nx env := rfl
def seqV (r : Vl) (g : VS) : Vl := match r with
  | .nx e => g e
  | o => o
@[simp] theorem seqV_nx (g : VS) : seqV (.nx e) g = g e := rfl
@[simp] theorem seqV_rt (g : VS) : seqV (.rt m e) g = .rt m e := rfl
@[simp] theorem seqV_bk (g : VS) : seqV (.bk e) g = .bk e := rfl
@[simp] theorem seqV_ct (g : VS) : seqV (.ct e) g = .ct e := rfl
@[simp] theorem seqV_ex (C : Addr) (g : VS) : seqV (.ex C e) g = .ex C e := rfl
@[simp] theorem vSeq_eq (f g : VS) : vSeq f g env = seqV (f env) g := by unfold vSeq seqV; cases f env <;> rfl
@[simp] theorem vExpr_eq : vExpr v env = vthen (v env) fun _ e => .nx e := rfl
@[simp] theorem vRet_eq : vRet v env = vthen (v env) fun m e => .rt m e := rfl
@[simp] theorem vRetN_eq : vRetN env = .rt (.val .non) env := rfl
@[simp] theorem vBrk_eq : vBrk env = .bk env := rfl
@[simp] theorem vCnt_eq : vCnt env = .ct env := rfl
@[simp] theorem vRaise_eq (C : Addr) : vRaise C env = .ex C env := rfl
@[simp] theorem vIte_eq (f g : VS) : vIte t f g env = vthen (t env) fun k e => if k = true then f e else g e := rfl
@[simp] theorem tName_eq : tName i m env = some (env.put i (some m)) := rfl
@[simp] theorem vlG_some : vlG (some e) = .nx e := rfl
@[simp] theorem vlG_none : vlG none = .no := rfl
@[simp] theorem vAsg_eq (g : VG) : vAsg v g env = vthen (v env) fun m e => vlG (g m e) := rfl
@[simp] theorem tNil_eq : tNil [] env = some env := rfl
@[simp] theorem tCons_eq (g : VG) (h : VGs) (ds : List D) : tCons g h (d :: ds) env = (g (.val d) env).bind (h ds) := by
  simp only [tCons]; cases g (.val d) env <;> rfl
@[simp] theorem tTup_eq (n : Nat) (g : VGs) (ds : List D) : tTup n g (.val (.tup ds)) env = if ds.length = n then g ds env else none := nq rfl
@[simp] theorem tPair_eq (x y : D) : tPair i j (.val (.tup [x, y])) env = some ((env.put i (some (.val x))).put j (some (.val y))) := rfl
@[simp] theorem vPar_eq : vPar i j w env = vthen (w env) fun ms e => match ms with
  | [a, b] => .nx ((e.put i (some a)).put j (some b))
  | _ => .no := rfl
@[simp] theorem vPar3_eq (l : Nat) : vPar3 i j l w env = vthen (w env) fun ms e => match ms with
  | [a, b, c] => .nx (((e.put i (some a)).put j (some b)).put l (some c))
  | _ => .no := rfl
@[simp] theorem vAsgN_eq (is : List Nat) : vAsgN is w env = vthen (w env) fun ms e => if ms.length ≤ 1000000 then vlG (putAll is ms e) else .no := rfl
@[simp] theorem putAll_nil : putAll [] [] e = some e := rfl
@[simp] theorem putAll_cons (is : List Nat) (ms : List M) : putAll (i :: is) (m :: ms) e = putAll is ms (e.put i (some m)) := rfl
def augV (o : Option (Option M)) (k : M → Vl) : Vl := match o with
  | some (some (.val x)) => k (.val x)
  | _ => .no
@[simp] theorem augV_some (k : M → Vl) : augV (some (some (.val d))) k = k (.val d) := rfl
def nxO (o : Option M) (k : M → Vl) : Vl := match o with
  | some m => k m
  | none => .no
@[simp] theorem nxO_some (k : M → Vl) : nxO (some m) k = k m := rfl
@[simp] theorem vAug_eq (g : G2) : vAug i v g env = augV env.o[i]? fun x => vthen (v env) fun y e => nxO (liftG g x y) fun m => .nx (e.put i (some m)) := by
  unfold vAug augV
  cases env.o[i]? with
  | none => rfl
  | some o =>
    cases o with
    | none => rfl
    | some m =>
      cases m with
      | val x =>
        dsimp only
        congr 1
      | _ => rfl
@[simp] theorem turnV_nx (k : Env → Vl) : turnV (.nx e) k = k e := rfl
@[simp] theorem turnV_ct (k : Env → Vl) : turnV (.ct e) k = k e := rfl
@[simp] theorem turnV_bk (k : Env → Vl) : turnV (.bk e) k = .nx e := rfl
@[simp] theorem turnV_rt (k : Env → Vl) : turnV (.rt m e) k = .rt m e := rfl
@[simp] theorem turnV_ex (C : Addr) (k : Env → Vl) : turnV (.ex C e) k = .ex C e := rfl
theorem vWhile_succ (c : VT) (b : VS) (n : Nat) : vWhile c b (n + 1) env = vthen (c env) fun k e => if k = true then turnV (b e) (vWhile c b n) else .nx e := rfl
@[simp] theorem vFor_eq (vi : VI) (g : VG) (b : VS) : vFor vi g b env = vthen (vi env) fun ds e => forI g b ds e := rfl
@[simp] theorem forI_nil (g : VG) (b : VS) : forI g b [] env = .nx env := rfl
theorem forI_cons (g : VG) (b : VS) (ds : List D) (h : g (.val d) env = some e1) : forI g b (d :: ds) env = turnV (b e1) (forI g b ds) := by simp only [forI, h]
theorem forI_name (b : VS) (ds : List D) : forI (tName i) b (d :: ds) env = turnV (b (env.put i (some (.val d)))) (forI (tName i) b ds) := rfl
@[simp] theorem forO_nil (g : VG) (b : VS) : forO g b [] env = .nx env := rfl
theorem forO_name (b : VS) (ms : List M) : forO (tName i) b (m :: ms) env = turnV (b (env.put i (some m))) (forO (tName i) b ms) := rfl
@[simp] theorem vForO_eq (g : VG) (b : VS) : vForO v g b env = vthen (v env) fun m e => match m with
  | .lst ms => if ms.length < 100000 then forO g b ms e else .no
  | _ => .no := rfl
@[simp] theorem ofI2_some (ds : List D) : ofI2 (some ds) e = .ok ds e := rfl
@[simp] theorem viSeq_eq : viSeq v env = (v env).bind fun m e => ofI2 (itemsM m) e := rfl
@[simp] theorem itemsM_lst (ds : List D) : itemsM (.val (.lst ds)) = some ds := rfl
@[simp] theorem itemsM_tup (ds : List D) : itemsM (.val (.tup ds)) = some ds := rfl
@[simp] theorem viLk_eq : viLk v env = (v env).bind fun m e => match itemsM m with
  | some ds => if ds.length < 100000 then .ok ds e else .no
  | none => .no := rfl
@[simp] theorem viRng_eq : viRng w env = (w env).bind fun ms e => ofI2 (rngM (intsM ms)) e := rfl
@[simp] theorem intsM_nil : intsM [] = some [] := rfl
@[simp] theorem intsM_cons (k : Int) (ms : List M) : intsM (.val (.int k) :: ms) = (intsM ms).map (k :: ·) := by
  simp only [intsM, intM]; cases intsM ms <;> rfl
@[simp] theorem rngM_1 (k : Int) : rngM (some [k]) = if rngOk k = true then some (rgD 0 k.toNat) else none := rfl
@[simp] theorem rngM_2 (k l : Int) : rngM (some [k, l]) = if rngOk k = true ∧ rngOk l = true then some (rgD k (l - k).toNat) else none := rfl
@[simp] theorem viEnum_eq : viEnum v env = (v env).bind fun m e => match m with
  | .val (.lst xs) => .ok (enumD 0 xs) e
  | _ => .no := rfl
@[simp] theorem vYes_eq : vYes env = .ok true env := rfl
@[simp] theorem frzM_eq (ms : List M) : frzM ms = (valsM ms).map fun ds => .val (.lst ds) := rfl
@[simp] theorem vLc_eq (vs : List Nat) (vi : VI) (g : VG) : vLc vs vi g t vf env = (vi env).bind fun ds e => ofM ((lcP g t vf (e.clr vs) ds []).bind frzM) e := rfl
@[simp] theorem vLcN_eq (vs : List Nat) (vi : VI) (g : VG) : vLcN vs vi g t vf env = (vi env).bind fun ds e => ofM ((lcP g t vf (e.clr vs) ds []).map M.lst) e := rfl
@[simp] theorem vTell_eq (K : PySem.W.Frag) (l : List (Addr × D)) (k : M → Env → Rv M) : vTell K l k v env = vTellR K l k (v env) := rfl
@[simp] theorem vTellR_ok (K : PySem.W.Frag) (l : List (Addr × D)) (k : M → Env → Rv M) : vTellR K l k (.ok m e) = k m e := rfl
@[simp] theorem vTellR_ex (K : PySem.W.Frag) (l : List (Addr × D)) (k : M → Env → Rv M) (C : Addr) : vTellR K l k (.ex C e) = vTellX K C l e := rfl
theorem tell_hit {K : PySem.W.Frag} {C C1 : Addr} {r : D} {l : List (Addr × D)} (h : PySem.W.exmOne K (.ref C) (.ref C1) = some true) : vTellX K C ((C1, r) :: l) e = .ok (.val r) e := by simp only [vTellX, h]
theorem tell_miss {K : PySem.W.Frag} {C C1 : Addr} {r : D} {l : List (Addr × D)} (h : PySem.W.exmOne K (.ref C) (.ref C1) = some false) : vTellX K C ((C1, r) :: l) e = vTellX K C l e := by simp only [vTellX, h]
/-! numbers -/
theorem cMul_left {i j : Int} (h1 : -1000000000000 < i) (h2 : i < 1000000000000) : cMul i j = true := by
  simp only [cMul, Bool.or_eq_true, Bool.and_eq_true, decide_eq_true_eq]; exact .inl ⟨by omega, by omega⟩
theorem cMul_right {i j : Int} (h1 : -1000000000000 < j) (h2 : j < 1000000000000) : cMul i j = true := by
  simp only [cMul, Bool.or_eq_true, Bool.and_eq_true, decide_eq_true_eq]; exact .inr ⟨by omega, by omega⟩
theorem rngOk_of {k : Int} (h1 : -1000000000 ≤ k) (h2 : k ≤ 1000000000) : rngOk k = true := by simp [rngOk, h1, h2]
theorem rgOk1_of {k : Int} (h1 : -1000000000 ≤ k) (h2 : k ≤ 1000000) : rgOk1 k = true := by simp [rgOk1, h1, h2]
theorem atI_cast {α : Type} (xs : List α) (j : Nat) : atI xs (j : Int) = xs[j]? := by
  cases h : xs[j]? with
  | some d => exact atI_nat h
  | none =>
    have hl := List.getElem?_eq_none_iff.mp h
    unfold L2.atI ixN
    rw [if_pos (by omega), if_neg (by omega)]
    rfl
theorem ixN_cast {n j : Nat} (h : j < n) : ixN n (j : Int) = some j := by
  unfold ixN
  rw [if_pos (by omega), if_pos (by omega)]
  simp
theorem ixN_last {n : Nat} (h : 0 < n) : ixN n (-1) = some (n - 1) := by
  unfold ixN
  rw [if_neg (by omega), if_pos (by omega)]
  congr 1; omega
theorem atI_last' {α : Type} (xs : List α) : atI xs (-1) = xs[xs.length - 1]? := by
  cases xs with
  | nil => rfl
  | cons a xs => unfold L2.atI; rw [ixN_last (by simp)]; rfl
/-- what a body's end tells the caller -/
def outV (n : Nat) : Vl → Rn
  | .rt m e => .ok m (e.o.take n)
  | .nx e => .ok (.val .non) (e.o.take n)
  | .ex C e => .ex C (e.o.take n)
  | _ => .no
@[simp] theorem outV_rt (n : Nat) : outV n (.rt m e) = .ok m (e.o.take n) := rfl
@[simp] theorem outV_nx (n : Nat) : outV n (.nx e) = .ok (.val .non) (e.o.take n) := rfl
@[simp] theorem outV_ex (n : Nat) (C : Addr) : outV n (.ex C e) = .ex C (e.o.take n) := rfl
theorem runV_eq {n k : Nat} {f : VS} {ms : List M} (h : ms.length = n) : runV n k f ms = outV n (f (startV n k ms)) := by
  unfold runV; rw [if_pos h]; cases f (startV n k ms) <;> rfl
@[simp] theorem runV_0 {f : VS} (k : Nat) : runV 0 k f [] = outV 0 (f ⟨([] : List M).map some ++ List.replicate (k - 0) none, []⟩) := runV_eq (n := 0) (by rfl)
@[simp] theorem runV_1 {f : VS} (k : Nat) (a0 : M) : runV 1 k f [a0] = outV 1 (f ⟨[a0].map some ++ List.replicate (k - 1) none, []⟩) := runV_eq (n := 1) (by rfl)
@[simp] theorem runV_2 {f : VS} (k : Nat) (a0 a1 : M) : runV 2 k f [a0, a1] = outV 2 (f ⟨[a0, a1].map some ++ List.replicate (k - 2) none, []⟩) := runV_eq (n := 2) (by rfl)
@[simp] theorem runV_3 {f : VS} (k : Nat) (a0 a1 a2 : M) : runV 3 k f [a0, a1, a2] = outV 3 (f ⟨[a0, a1, a2].map some ++ List.replicate (k - 3) none, []⟩) := runV_eq (n := 3) (by rfl)
@[simp] theorem runV_4 {f : VS} (k : Nat) (a0 a1 a2 a3 : M) : runV 4 k f [a0, a1, a2, a3] = outV 4 (f ⟨[a0, a1, a2, a3].map some ++ List.replicate (k - 4) none, []⟩) := runV_eq (n := 4) (by rfl)
@[simp] theorem runV_5 {f : VS} (k : Nat) (a0 a1 a2 a3 a4 : M) : runV 5 k f [a0, a1, a2, a3, a4] = outV 5 (f ⟨[a0, a1, a2, a3, a4].map some ++ List.replicate (k - 5) none, []⟩) := runV_eq (n := 5) (by rfl)
@[simp] theorem runV_6 {f : VS} (k : Nat) (a0 a1 a2 a3 a4 a5 : M) : runV 6 k f [a0, a1, a2, a3, a4, a5] = outV 6 (f ⟨[a0, a1, a2, a3, a4, a5].map some ++ List.replicate (k - 6) none, []⟩) := runV_eq (n := 6) (by rfl)
@[simp] theorem runV_7 {f : VS} (k : Nat) (a0 a1 a2 a3 a4 a5 a6 : M) : runV 7 k f [a0, a1, a2, a3, a4, a5, a6] = outV 7 (f ⟨[a0, a1, a2, a3, a4, a5, a6].map some ++ List.replicate (k - 7) none, []⟩) := runV_eq (n := 7) (by rfl)
@[simp] theorem runV_8 {f : VS} (k : Nat) (a0 a1 a2 a3 a4 a5 a6 a7 : M) : runV 8 k f [a0, a1, a2, a3, a4, a5, a6, a7] = outV 8 (f ⟨[a0, a1, a2, a3, a4, a5, a6, a7].map some ++ List.replicate (k - 8) none, []⟩) := runV_eq (n := 8) (by rfl)
@[simp] theorem startV_eq (n k : Nat) (ms : List M) : startV n k ms = ⟨ms.map some ++ List.replicate (k - n) none, []⟩ := rfl
end eqs
/-! places by written numbers -/
section lits
theorem cast_lit (n : Nat) : (no_index (OfNat.ofNat n) : Int) = ((n : Nat) : Int) := rfl
@[simp] theorem atI_lit {α : Type} (xs : List α) (n : Nat) : atI xs (no_index (OfNat.ofNat n) : Int) = xs[n]? := atI_cast xs n
@[simp] theorem atI_m1 {α : Type} (xs : List α) : atI xs (-1) = xs[xs.length - 1]? := atI_last' xs
@[simp] theorem atI_nat' {α : Type} (xs : List α) (n : Nat) : atI xs (n : Int) = xs[n]? := atI_cast xs n
theorem ixN_nat (k n : Nat) : ixN k (n : Int) = if n < k then some n else none := by
  by_cases h : n < k
  · rw [ixN_cast h, if_pos h]
  · unfold ixN
    rw [if_pos (by omega), if_neg (by omega), if_neg h]
@[simp] theorem ixN_lit (k n : Nat) : ixN k (no_index (OfNat.ofNat n) : Int) = if n < k then some n else none := ixN_nat k n
@[simp] theorem ixN_natS (k n : Nat) : ixN k (n : Int) = if n < k then some n else none := ixN_nat k n
@[simp] theorem ixN_m1 (k : Nat) : ixN k (-1) = if 0 < k then some (k - 1) else none := by
  by_cases h : 0 < k
  · rw [ixN_last h, if_pos h]
  · have : k = 0 := by omega
    subst this; rfl
end lits
section data
variable {S : So}
@[simp] theorem gEq_int (i j : Int) : gEq (.int i) (.int j) S = some (.bl (decide (i = j)), S) := by
  rw [gEq_gud (gud_int 0 i) (gud_int 0 j) (by decide), eqq_int]
@[simp] theorem gNe_int (i j : Int) : gNe (.int i) (.int j) S = some (.bl (!decide (i = j)), S) := by
  rw [gNe_gud (gud_int 0 i) (gud_int 0 j) (by decide), eqq_int]
@[simp] theorem gEq_ints (ns ms : List Int) : gEq (.lst (ns.map D.int)) (.lst (ms.map D.int)) S = some (.bl (decide (ns = ms)), S) := eq_ints ns ms S
@[simp] theorem gNe_ints (ns ms : List Int) : gNe (.lst (ns.map D.int)) (.lst (ms.map D.int)) S = some (.bl (!decide (ns = ms)), S) := ne_ints ns ms S
@[simp] theorem gEq_ints0 (ns : List Int) : gEq (.lst (ns.map D.int)) (.lst []) S = some (.bl (decide (ns = [])), S) := eq_ints ns [] S
@[simp] theorem gNe_ints0 (ns : List Int) : gNe (.lst (ns.map D.int)) (.lst []) S = some (.bl (!decide (ns = [])), S) := ne_ints ns [] S
end data
section sets
variable {env : Env} {m m0 : M} {i : Nat} {P : Pl} {v : VE}
def setO (o : Option (Option M)) (p : List Stp) (k : Int) (m : M) (f : M → Env) : Option Env := match o with
  | some (some m0) => match m0.at p with
    | some (.lst ms) => match ixN ms.length k with
      | some j => some (f (m0.wrs p (.lst (ms.set j m))))
      | none => none
    | _ => none
  | _ => none
@[simp] theorem setO_some (p : List Stp) (k : Int) (f : M → Env) : setO (some (some m0)) p k m f = match m0.at p with
    | some (.lst ms) => match ixN ms.length k with
      | some j => some (f (m0.wrs p (.lst (ms.set j m))))
      | none => none
    | _ => none := rfl
@[simp] theorem setAt_eq (p : List Stp) (k : Int) : setAt env i p k m = setO env.o[i]? p k m fun z => env.up i (some z) := rfl
@[simp] theorem tSub_eq : tSub P v m env = match P env with
  | some (i, p) => match env.look i p with
    | some _ => match v env with
      | .ok (.val (.int k)) e1 => setAt e1 i p k m
      | _ => none
    | none => none
  | none => none := rfl
end sets
/-! ### lists of ints that are owned -/
section iml
def iM (ns : List Int) : List M := ns.map fun n => .val (.int n)
@[simp] theorem iM_map (ns : List Int) : (ns.map D.int).map M.val = iM ns := by simp [iM]
@[simp] theorem iM_comp (ns : List Int) : ns.map (M.val ∘ D.int) = iM ns := rfl
@[simp] theorem valsM_comp {α : Type} (f : α → D) (xs : List α) : valsM (xs.map (M.val ∘ f)) = some (xs.map f) := by rw [← List.map_map]; exact valsM_map _
@[simp] theorem valsM_iM (ns : List Int) : valsM (iM ns) = some (ns.map D.int) := valsM_comp D.int ns
@[simp] theorem iM_length (ns : List Int) : (iM ns).length = ns.length := by simp [iM]
@[simp] theorem iM_get (ns : List Int) (k : Nat) : (iM ns)[k]? = (ns[k]?).map fun n => .val (.int n) := by simp [iM]
@[simp] theorem iM_set (ns : List Int) (k : Nat) (x : Int) : (iM ns).set k (.val (.int x)) = iM (ns.set k x) := by simp [iM, List.map_set]
@[simp] theorem iM_snoc (ns : List Int) (x : Int) : iM ns ++ [.val (.int x)] = iM (ns ++ [x]) := by simp [iM]
@[simp] theorem iM_app (ns ms : List Int) : iM ns ++ iM ms = iM (ns ++ ms) := by simp [iM]
@[simp] theorem iM_dropLast (ns : List Int) : (iM ns).dropLast = iM ns.dropLast := by simp [iM, List.map_dropLast]
@[simp] theorem iM_erase : ∀ (ns : List Int) (k : Nat), (iM ns).eraseIdx k = iM (ns.eraseIdx k)
  | [], k => rfl
  | n :: ns, 0 => rfl
  | n :: ns, k + 1 => by show .val (.int n) :: (iM ns).eraseIdx k = .val (.int n) :: iM (ns.eraseIdx k); rw [iM_erase ns k]
@[simp] theorem iM_nil : iM [] = [] := rfl
theorem iM_cons (n : Int) (ns : List Int) : iM (n :: ns) = .val (.int n) :: iM ns := rfl
end iml
/-! ### comprehensions whose turns tell a function -/
section lcs
variable {i : Nat} {c : VT} {f : VE} {env : Env}
theorem lcP_map (h : D → D) : ∀ (ds : List D) (acc : List M), (∀ d ∈ ds, ∃ e, f (env.put i (some (.val d))) = .ok (.val (h d)) e) → acc.length + ds.length < 1000000 → lcP (tName i) vYes f env ds acc = some (acc ++ (ds.map h).map M.val)
  | [], acc, hf, hl => by simp [lcP]
  | d :: ds, acc, hf, hl => by
    obtain ⟨e, he⟩ := hf d (by simp)
    have hl' : acc.length < 1000000 := by simp at hl; omega
    have ih := lcP_map h ds (acc ++ [.val (h d)]) (fun d' hd => hf d' (by simp [hd])) (by simp at hl ⊢; omega)
    simp only [lcP, tName_eq, vYes_eq, he, if_pos hl', ih]
    simp
theorem lcP_filter (p : D → Bool) (h : D → D) : ∀ (ds : List D) (acc : List M), (∀ d ∈ ds, ∃ e, c (env.put i (some (.val d))) = .ok (p d) e) → (∀ d ∈ ds, p d = true → ∃ e, f (env.put i (some (.val d))) = .ok (.val (h d)) e) → acc.length + ds.length < 1000000 → lcP (tName i) c f env ds acc = some (acc ++ ((ds.filter p).map h).map M.val)
  | [], acc, hc, hf, hl => by simp [lcP]
  | d :: ds, acc, hc, hf, hl => by
    obtain ⟨e1, he1⟩ := hc d (by simp)
    have hl' : acc.length < 1000000 := by simp at hl; omega
    cases hp : p d with
    | true =>
      obtain ⟨e, he⟩ := hf d (by simp) hp
      have ih := lcP_filter p h ds (acc ++ [.val (h d)]) (fun d' hd => hc d' (by simp [hd])) (fun d' hd => hf d' (by simp [hd])) (by simp at hl ⊢; omega)
      simp only [lcP, tName_eq, he1, hp, he, if_pos hl', ih]
      simp [hp]
    | false =>
      have ih := lcP_filter p h ds acc (fun d' hd => hc d' (by simp [hd])) (fun d' hd => hf d' (by simp [hd])) (by simp at hl ⊢; omega)
      simp only [lcP, tName_eq, he1, hp, ih]
      simp [hp]
theorem lcP_ex (P : M → Prop) : ∀ (ds : List D) (acc : List M), (∀ d ∈ ds, ∃ y e, f (env.put i (some (.val d))) = .ok y e ∧ P y) → acc.length + ds.length < 1000000 → ∃ ys, ys.length = ds.length ∧ (∀ y ∈ ys, P y) ∧ lcP (tName i) vYes f env ds acc = some (acc ++ ys)
  | [], acc, hf, hl => ⟨[], rfl, by simp, by simp [lcP]⟩
  | d :: ds, acc, hf, hl => by
    obtain ⟨y, e, he, hp⟩ := hf d (by simp)
    have hl' : acc.length < 1000000 := by simp at hl; omega
    obtain ⟨ys, h1, h2, h3⟩ := lcP_ex P ds (acc ++ [y]) (fun d' hd => hf d' (by simp [hd])) (by simp at hl ⊢; omega)
    refine ⟨y :: ys, by simp [h1], fun z hz => ?_, ?_⟩
    · rcases List.mem_cons.mp hz with rfl | hz
      · exact hp
      · exact h2 z hz
    · simp only [lcP, tName_eq, vYes_eq, he, if_pos hl', h3]
      simp
/-- turns that change what is owned, with an invariant -/
theorem lcE_ex (R : VF.Env → Prop) (P : M → Prop) : ∀ (ds : List D) (acc : List M) (e : VF.Env), (∀ d ∈ ds, ∀ e, R e → ∃ y e3, f (e.put i (some (.val d))) = .ok y e3 ∧ P y ∧ R (e3.put i none)) → R e → acc.length + ds.length < 1000000 → ∃ ys e', ys.length = ds.length ∧ (∀ y ∈ ys, P y) ∧ R e' ∧ lcE (tName i) vYes f [i] ds acc e = .ok (acc ++ ys) e'
  | [], acc, e, hf, hr, hl => ⟨[], e, rfl, by simp, hr, by simp [lcE]⟩
  | d :: ds, acc, e, hf, hr, hl => by
    obtain ⟨y, e3, he, hp, hr3⟩ := hf d (by simp) e hr
    have hl' : acc.length < 1000000 := by simp at hl; omega
    obtain ⟨ys, e', h1, h2, h4, h3⟩ := lcE_ex R P ds (acc ++ [y]) (e3.put i none) (fun d' hd => hf d' (by simp [hd])) hr3 (by simp at hl ⊢; omega)
    refine ⟨y :: ys, e', by simp [h1], fun z hz => ?_, h4, ?_⟩
    · rcases List.mem_cons.mp hz with rfl | hz
      · exact hp
      · exact h2 z hz
    · simp only [lcE, tName_eq, vYes_eq, bv_ok, if_true, he, if_pos hl', clr_cons, clr_nil, h3]
      simp
end lcs
end VF

namespace VF
open PySem L2 PF
variable [Tab]
/-! ### loops by what holds between the turns -/
theorem while_to {c : VT} {b : VS} (R : Nat → VF.Env → Prop) (h0 : ∀ e, R 0 e → c e = .ok false e) (hs : ∀ d e, R (d + 1) e → c e = .ok true e ∧ ∃ e2, (b e = .nx e2 ∨ b e = .ct e2) ∧ R d e2) : ∀ (d n : Nat) (e : VF.Env), R d e → d < n → ∃ e', vWhile c b n e = .nx e' ∧ R 0 e'
  | 0, n, e, h, hn => by
    obtain ⟨n, rfl⟩ : ∃ m, n = m + 1 := ⟨n - 1, by omega⟩
    exact ⟨e, by rw [vWhile_succ, h0 e h]; rfl, h⟩
  | d + 1, n, e, h, hn => by
    obtain ⟨n, rfl⟩ : ∃ m, n = m + 1 := ⟨n - 1, by omega⟩
    obtain ⟨h1, e2, h2, h3⟩ := hs d e h
    obtain ⟨e', h4, h5⟩ := while_to R h0 hs d n e2 h3 (by omega)
    refine ⟨e', ?_, h5⟩
    rw [vWhile_succ, h1, tv_ok, if_pos rfl]
    rcases h2 with h2 | h2 <;> rw [h2] <;> exact h4
/-- a loop over items, any target -/
theorem for_to {g : VG} {b : VS} (R : List D → VF.Env → Prop) (hs : ∀ d ds e, R (d :: ds) e → ∃ e1 e2, g (.val d) e = some e1 ∧ (b e1 = .nx e2 ∨ b e1 = .ct e2) ∧ R ds e2) : ∀ (ds : List D) (e : VF.Env), R ds e → ∃ e', forI g b ds e = .nx e' ∧ R [] e'
  | [], e, h => ⟨e, rfl, h⟩
  | d :: ds, e, h => by
    obtain ⟨e1, e2, h1, h2, h3⟩ := hs d ds e h
    obtain ⟨e', h4, h5⟩ := for_to R hs ds e2 h3
    refine ⟨e', ?_, h5⟩
    rw [forI_cons _ _ _ h1]
    rcases h2 with h2 | h2 <;> rw [h2] <;> exact h4
/-- a loop over numbers -/
theorem for_rng {i : Nat} {b : VS} (R : Int → VF.Env → Prop) : ∀ (n : Nat) (a : Int) (e : VF.Env), R a e → (∀ k e, a ≤ k → k < a + n → R k e → ∃ e2, (b (e.put i (some (.val (.int k)))) = .nx e2 ∨ b (e.put i (some (.val (.int k)))) = .ct e2) ∧ R (k + 1) e2) → ∃ e', forI (tName i) b (rgD a n) e = .nx e' ∧ R (a + n) e'
  | 0, a, e, h, hs => ⟨e, rfl, by simpa using h⟩
  | n + 1, a, e, h, hs => by
    obtain ⟨e2, h2, h3⟩ := hs a e (by omega) (by omega) h
    obtain ⟨e', h4, h5⟩ := for_rng R n (a + 1) e2 h3 (fun k e hk hk2 hr => hs k e (by omega) (by omega) hr)
    refine ⟨e', ?_, by rw [show a + ((n + 1 : Nat) : Int) = a + 1 + (n : Int) by omega]; exact h5⟩
    rw [rgD_cons, forI_name]
    rcases h2 with h2 | h2 <;> rw [h2] <;> exact h4
/-! ### cuts -/
theorem cutD_nat (xs : List D) (a b : Nat) (h : a ≤ b) : cutD xs (some (a : Int)) (some (b : Int)) = (xs.drop a).take (b - a) := by
  unfold cutD
  rw [HT.sIx_nat, HT.sIx_nat]
  by_cases c : a ≤ xs.length
  · rw [Nat.min_eq_left c]
    by_cases c2 : b ≤ xs.length
    · rw [Nat.min_eq_left c2]
    · rw [Nat.min_eq_right (by omega), List.take_of_length_le (by simp), List.take_of_length_le (by simp; omega)]
  · rw [Nat.min_eq_right (by omega), List.drop_of_length_le (by omega), List.drop_of_length_le (by omega)]
    simp
theorem cutD_from (xs : List D) (a : Nat) : cutD xs (some (a : Int)) none = xs.drop a := by
  unfold cutD
  rw [HT.sIx_nat]
  show (xs.drop (min a xs.length)).take (xs.length - min a xs.length) = _
  by_cases c : a ≤ xs.length
  · rw [Nat.min_eq_left c, List.take_of_length_le (by simp)]
  · rw [Nat.min_eq_right (by omega), List.drop_of_length_le (by omega), List.drop_of_length_le (by omega)]
    simp
theorem cutD_to (xs : List D) (b : Nat) : cutD xs none (some (b : Int)) = xs.take b := by
  unfold cutD
  rw [HT.sIx_nat]
  show (xs.drop 0).take (min b xs.length - 0) = _
  by_cases c : b ≤ xs.length
  · simp [Nat.min_eq_left c]
  · rw [Nat.min_eq_right (by omega), List.take_of_length_le (by simp), List.take_of_length_le (by omega)]; rfl
theorem cutD_all (xs : List D) : cutD xs none none = xs := by
  unfold cutD
  show (xs.drop 0).take (xs.length - 0) = _
  simp
@[simp] theorem sl_lst (xs : List D) (lo hi : Option Int) : gSl false (.lst xs) lo hi [] = some (.lst (cutD xs lo hi), []) := rfl
@[simp] theorem sl_tup (xs : List D) (lo hi : Option Int) : gSl false (.tup xs) lo hi [] = some (.tup (cutD xs lo hi), []) := rfl
/-! ### tables -/
def tupD (m : List (List Int)) : List D := m.map fun r => D.tup (r.map D.int)
def lstD (m : List (List Int)) : List D := m.map fun r => D.lst (r.map D.int)
theorem tupD_app (a b : List (List Int)) : tupD (a ++ b) = tupD a ++ tupD b := by simp [tupD]
@[simp] theorem tupD_len (a : List (List Int)) : (tupD a).length = a.length := by simp [tupD]
@[simp] theorem lstD_len (a : List (List Int)) : (lstD a).length = a.length := by simp [lstD]
@[simp] theorem tupD_get (a : List (List Int)) (k : Nat) : (tupD a)[k]? = (a[k]?).map fun r => D.tup (r.map D.int) := by simp [tupD]
@[simp] theorem lstD_get (a : List (List Int)) (k : Nat) : (lstD a)[k]? = (a[k]?).map fun r => D.lst (r.map D.int) := by simp [lstD]
theorem lstD_mem {rows : List (List Int)} {d : D} (h : d ∈ lstD rows) : ∃ x, x ∈ rows ∧ d = .lst (x.map D.int) := by
  obtain ⟨x, h1, h2⟩ := List.mem_map.mp h
  exact ⟨x, h1, h2.symm⟩
theorem lstD_cut (rows : List (List Int)) (a n : Nat) : ((lstD rows).drop a).take n = lstD ((rows.drop a).take n) := by
  simp [lstD]
/-- tables that are owned -/
def lM (m : List (List Int)) : List M := m.map fun r => M.lst (iM r)
@[simp] theorem lM_len (m : List (List Int)) : (lM m).length = m.length := by simp [lM]
@[simp] theorem lM_get (m : List (List Int)) (k : Nat) : (lM m)[k]? = (m[k]?).map fun r => M.lst (iM r) := by simp [lM]
theorem lM_app (a b : List (List Int)) : lM (a ++ b) = lM a ++ lM b := by simp [lM]
@[simp] theorem lM_snoc (a : List (List Int)) (r : List Int) : lM a ++ [.lst (iM r)] = lM (a ++ [r]) := by simp [lM]
@[simp] theorem lM_set (a : List (List Int)) (k : Nat) (r : List Int) : (lM a).set k (.lst (iM r)) = lM (a.set k r) := by simp [lM, List.map_set]
theorem augV_mul {env e : VF.Env} {i : Nat} {v : VE} {a b : Int} (h : env.o[i]? = some (some (.val (.int a)))) (hf : v env = .ok (.val (.int b)) e) (hc : cMul a b = true) : vAug i v (gIc cMul fun i j => i * j) env = .nx (e.put i (some (.val (.int (a * b))))) := by
  rw [vAug_eq, h, augV_some, hf, tv_ok, liftG_val, gIc_int, if_pos hc]; rfl
theorem mulL (xs : List D) (n : Nat) (h : xs.length * n ≤ 1000000) (h2 : n ≤ 1000000) : gMul false (.lst xs) (.int (n : Int)) [] = some (.lst (List.replicate n xs).flatten, []) := by
  rw [mul_rep false xs n [] (by omega), if_pos (by omega), newL_f]
theorem mul1 (d : D) (n : Nat) (h2 : n ≤ 1000000) : gMul false (.lst [d]) (.int (n : Int)) [] = some (.lst (List.replicate n d), []) := by
  rw [mulL [d] n (by simp; omega) h2]
  congr 3
  induction n with
  | zero => rfl
  | succ n ih => rw [List.replicate_succ, List.flatten_cons, ih (by omega)]; rfl
section lcb
variable {j i : Nat} {c : VT} {f : VE} {env : VF.Env}
theorem lcB_map (h : M → D) : ∀ (ms acc : List M), (∀ m ∈ ms, ∃ e, f (env.bor j i m) = .ok (.val (h m)) e) → acc.length + ms.length < 1000000 → lcB j i vYes f env ms acc = some (acc ++ (ms.map h).map M.val)
  | [], acc, hf, hl => by simp [lcB]
  | m :: ms, acc, hf, hl => by
    obtain ⟨e, he⟩ := hf m (by simp)
    have hl' : acc.length < 1000000 := by simp at hl; omega
    have ih := lcB_map h ms (acc ++ [.val (h m)]) (fun d' hd => hf d' (by simp [hd])) (by simp at hl ⊢; omega)
    simp only [lcB, vYes_eq, he, if_pos hl', ih]
    simp
end lcb
/-- looks at what is borrowed -/
@[simp] theorem vLb_bor (env : VF.Env) (j i : Nat) (m : M) : vLb j (env.bor j i m) = ofM (lookM m) (env.bor j i m) := by
  simp [vLb, Env.bor]
end VF

namespace VF
open PySem L2 PF
variable [Tab]
/-! ### equality of data -/
section eqs
variable {n : Nat} {S : So} {a b : D}
@[simp] theorem gud_int' (i : Int) : gud n (.int i) := gud_int n i
@[simp] theorem gud_non' : gud n .non := gud_non n
@[simp] theorem gud_bl' (b : Bool) : gud n (.bl b) := gud_bl n b
@[simp] theorem gud_str' (s : Str) : gud n (.str s) ↔ PyData.strOk s = true := ⟨fun ⟨x, h1, h2, h3⟩ => by cases h1; exact h2, fun h => ⟨_, rfl, h, Nat.zero_le _⟩⟩
@[simp] theorem gud_lst' (ds : List D) : gud (n + 1) (.lst ds) ↔ guds n ds := ⟨fun ⟨x, h1, h2, h3⟩ => by
  simp only [pd0] at h1
  cases h : pds ds with
  | none => rw [h] at h1; cases h1
  | some r =>
    rw [h] at h1; cases h1
    exact ⟨r, h, by simpa [PyData.canLay0] using h2, by simp only [PyData.depth] at h3; omega⟩, gud_lst⟩
@[simp] theorem gud_tup' (ds : List D) : gud (n + 1) (.tup ds) ↔ guds n ds := ⟨fun ⟨x, h1, h2, h3⟩ => by
  simp only [pd0] at h1
  cases h : pds ds with
  | none => rw [h] at h1; cases h1
  | some r =>
    rw [h] at h1; cases h1
    exact ⟨r, h, by simpa [PyData.canLay0] using h2, by simp only [PyData.depth] at h3; omega⟩, gud_tup⟩
@[simp] theorem guds_nil' : guds n [] := guds_nil n
@[simp] theorem guds_cons' (d : D) (ds : List D) : guds n (d :: ds) ↔ gud n d ∧ guds n ds := ⟨fun ⟨x, h1, h2, h3⟩ => by
  simp only [pds] at h1
  cases h : pd0 d with
  | none => rw [h] at h1; cases h1
  | some r =>
    cases hs : pds ds with
    | none => rw [h, hs] at h1; cases h1
    | some q =>
      rw [h, hs] at h1; cases h1
      simp only [PyData.canLayAll0, Bool.and_eq_true] at h2
      simp only [PyData.depthAll] at h3
      exact ⟨⟨r, h, h2.1, by omega⟩, ⟨q, hs, h2.2, by omega⟩⟩, fun h => guds_cons h.1 h.2⟩
@[simp] theorem guds_ints' (ns : List Int) : guds n (ns.map D.int) := guds_ints n ns
@[simp] theorem guds_tupD (m : List (List Int)) : guds (n + 1) (tupD m) := guds_all fun d h => by
  obtain ⟨r, _, rfl⟩ := List.mem_map.mp h
  simp
@[simp] theorem guds_lstD (m : List (List Int)) : guds (n + 1) (lstD m) := guds_all fun d h => by
  obtain ⟨r, _, rfl⟩ := List.mem_map.mp h
  simp
@[simp] theorem gEq_g (h : gud 64 a) (k : gud 64 b) : gEq a b S = some (.bl (eqq a b), S) := gEq_gud h k (Nat.le_refl _)
@[simp] theorem gNe_g (h : gud 64 a) (k : gud 64 b) : gNe a b S = some (.bl (!eqq a b), S) := gNe_gud h k (Nat.le_refl _)
@[simp] theorem eqq_int' (i j : Int) : eqq (.int i) (.int j) = decide (i = j) := eqq_int i j
@[simp] theorem eqq_str (i j : Str) : eqq (.str i) (.str j) = decide (i = j) := by
  simp only [eqq, pd0, PyData.eqv, Bool.beq_eq_decide_eq]
@[simp] theorem eqq_is (i : Int) (s : Str) : eqq (.int i) (.str s) = false := by simp only [eqq, pd0, PyData.eqv]
@[simp] theorem eqq_si (i : Int) (s : Str) : eqq (.str s) (.int i) = false := by simp only [eqq, pd0, PyData.eqv]
@[simp] theorem eqq_nn' : eqq .non .non = true := rfl
@[simp] theorem eqq_ni' (i : Int) : eqq .non (.int i) = false := eqq_ni i
@[simp] theorem eqq_in' (i : Int) : eqq (.int i) .non = false := eqq_in i
@[simp] theorem eqq_ns (s : Str) : eqq .non (.str s) = false := by simp only [eqq, pd0, PyData.eqv]
@[simp] theorem eqq_sn (s : Str) : eqq (.str s) .non = false := by simp only [eqq, pd0, PyData.eqv]
@[simp] theorem eqq_bb (x y : Bool) : eqq (.bl x) (.bl y) = decide (x = y) := by
  simp only [eqq, pd0, PyData.eqv, Bool.beq_eq_decide_eq]
@[simp] theorem eqq_tn' (ds : List D) : eqq (.tup ds) .non = false := eqq_tn ds
@[simp] theorem eqq_nt' (ds : List D) : eqq .non (.tup ds) = false := eqq_nt ds
@[simp] theorem eqq_ts (ds : List D) (s : Str) : eqq (.tup ds) (.str s) = false := by
  simp only [eqq, pd0]; cases pds ds <;> simp only [PyData.eqv]
@[simp] theorem eqq_ls (ds : List D) (s : Str) : eqq (.lst ds) (.str s) = false := by
  simp only [eqq, pd0]; cases pds ds <;> simp only [PyData.eqv]
@[simp] theorem eqq_tt' (xs ys : List D) : eqq (.tup xs) (.tup ys) = eqqs xs ys := eqq_tt xs ys
@[simp] theorem eqq_ll' (xs ys : List D) : eqq (.lst xs) (.lst ys) = eqqs xs ys := eqq_ll xs ys
@[simp] theorem eqqs_nn' : eqqs [] [] = true := rfl
@[simp] theorem eqqs_cc' (x y : D) (xs ys : List D) : eqqs (x :: xs) (y :: ys) = (eqq x y && eqqs xs ys) := eqqs_cc x y xs ys
@[simp] theorem eqqs_nc (y : D) (ys : List D) : eqqs [] (y :: ys) = false := by
  simp only [eqqs, pds]
  cases pd0 y with
  | none => rfl
  | some a => cases pds ys with
    | none => rfl
    | some b => simp only [PyData.eqvAll]
@[simp] theorem eqqs_cn (y : D) (ys : List D) : eqqs (y :: ys) [] = false := by
  simp only [eqqs, pds]
  cases pd0 y with
  | none => rfl
  | some a => cases pds ys with
    | none => rfl
    | some b => simp only [PyData.eqvAll]
@[simp] theorem eqqs_ints' (ns ms : List Int) : eqqs (ns.map D.int) (ms.map D.int) = decide (ns = ms) := eqqs_ints ns ms
@[simp] theorem eqqs_ints0 (ns : List Int) : eqqs (ns.map D.int) [] = decide (ns = []) := eqqs_ints ns []
@[simp] theorem eqqs_0ints (ns : List Int) : eqqs [] (ns.map D.int) = decide ([] = ns) := eqqs_ints [] ns
theorem eqqs_tupD : ∀ (a b : List (List Int)), eqqs (tupD a) (tupD b) = decide (a = b)
  | [], [] => rfl
  | [], y :: ys => by rw [show tupD [] = [] from rfl, show tupD (y :: ys) = .tup (y.map D.int) :: tupD ys from rfl]; simp
  | y :: ys, [] => by rw [show tupD [] = [] from rfl, show tupD (y :: ys) = .tup (y.map D.int) :: tupD ys from rfl]; simp
  | x :: xs, y :: ys => by
    rw [show tupD (x :: xs) = .tup (x.map D.int) :: tupD xs from rfl, show tupD (y :: ys) = .tup (y.map D.int) :: tupD ys from rfl]
    simp [eqqs_tupD xs ys]
theorem eqqs_lstD : ∀ (a b : List (List Int)), eqqs (lstD a) (lstD b) = decide (a = b)
  | [], [] => rfl
  | [], y :: ys => by rw [show lstD [] = [] from rfl, show lstD (y :: ys) = .lst (y.map D.int) :: lstD ys from rfl]; simp
  | y :: ys, [] => by rw [show lstD [] = [] from rfl, show lstD (y :: ys) = .lst (y.map D.int) :: lstD ys from rfl]; simp
  | x :: xs, y :: ys => by
    rw [show lstD (x :: xs) = .lst (x.map D.int) :: lstD xs from rfl, show lstD (y :: ys) = .lst (y.map D.int) :: lstD ys from rfl]
    simp [eqqs_lstD xs ys]
end eqs
@[simp] theorem ok_none : PyData.strOk "none" = true := by decide +kernel
@[simp] theorem ok_range : PyData.strOk "range" = true := by decide +kernel
@[simp] theorem ok_open : PyData.strOk "open" = true := by decide +kernel
@[simp] theorem ok_held : PyData.strOk "held" = true := by decide +kernel
@[simp] theorem ok_tree : PyData.strOk "tree" = true := by decide +kernel
@[simp] theorem ok_marks : PyData.strOk "marks" = true := by decide +kernel
@[simp] theorem ok_key : PyData.strOk "key" = true := by decide +kernel
@[simp] theorem ok_full : PyData.strOk "full" = true := by decide +kernel
@[simp] theorem ok_due : PyData.strOk "due" = true := by decide +kernel
@[simp] theorem ok_done : PyData.strOk "done" = true := by decide +kernel
@[simp] theorem ok_bad_tree : PyData.strOk "bad tree" = true := by decide +kernel
@[simp] theorem ok_undone : PyData.strOk "undone" = true := by decide +kernel
@[simp] theorem ok_empty : PyData.strOk "empty" = true := by decide +kernel
@[simp] theorem ok_not_rising : PyData.strOk "not rising" = true := by decide +kernel
@[simp] theorem ok_no_order : PyData.strOk "no order" = true := by decide +kernel
@[simp] theorem ok_no_room : PyData.strOk "no room" = true := by decide +kernel
@[simp] theorem ok_no_span : PyData.strOk "no span" = true := by decide +kernel
@[simp] theorem ok_too_large : PyData.strOk "too large" = true := by decide +kernel
@[simp] theorem ok_no_group : PyData.strOk "no group" = true := by decide +kernel
@[simp] theorem ok_no_word : PyData.strOk "no word" = true := by decide +kernel
@[simp] theorem ne_none_range : (("none" : Str) = "range") = False := eq_false (by decide +kernel)
@[simp] theorem ne_range_none : (("range" : Str) = "none") = False := eq_false (by decide +kernel)
example : gNe (.str "range") (.str "range") [] = some (.bl false, []) := by simp
example : gNe (.str "range") (.str "none") [] = some (.bl true, []) := by simp
example : gNe (.lst []) (.lst []) [] = some (.bl false, []) := by simp
end VF

namespace VF
open PySem L2 PF
variable [Tab]
/-! ### instances by values -/
theorem lookup_at {x : Str} {e : D} : ∀ {fs : List (Str × D)} {k : Nat}, fs[k]? = some (x, e) → (∀ j, j < k → ∀ y, fs[j]? = some y → y.1 ≠ x) → fs.lookup x = some e
  | [], k, h, _ => by simp at h
  | (y, d) :: fs, 0, h, _ => by
    simp at h
    obtain ⟨rfl, rfl⟩ := h
    simp
  | (y, d) :: fs, k + 1, h, hn => by
    have hy := hn 0 (by omega) (y, d) rfl
    have hb : (x == y) = false := by
      cases q : x == y with
      | false => rfl
      | true => exact absurd (beq_iff_eq.mp q).symm hy
    simp only [List.lookup, hb]
    exact lookup_at (by simpa using h) (fun j hj z hz => hn (j + 1) (by omega) z (by simpa using hz))
theorem lookup_no {x : Str} : ∀ {fs : List (Str × D)}, x ∉ fs.map (·.1) → fs.lookup x = none
  | [], _ => rfl
  | (y, d) :: fs, h => by
    have hb : (x == y) = false := by
      cases q : x == y with
      | false => rfl
      | true => exact absurd (by simp [beq_iff_eq.mp q]) h
    simp only [List.lookup, hb]
    exact lookup_no fun q => h (by simp at q ⊢; exact .inr q)
section plc
variable {s : Bool} {f fo : FE} {P : Pl} {C : Addr} {x m : Str} {k : Nat}
/-- a field of an instance -/
def pFld (C : Addr) (k : Nat) (x : Str) (P : Pl) : Pl := fun env => match P env with
  | some (i, p) => some (i, p ++ [.fld C k x])
  | none => none
theorem sp_fld (C : Addr) (k : Nat) (x : Str) (h : SimP s f P) : SimP false (fFld C x f) (pFld C k x P) := by
  refine ⟨fun env en S As i p m he nd hP hl => ?_, fun z => (by cases z)⟩
  unfold pFld at hP
  split at hP
  · rename_i i0 p0 hP0
    simp only [Option.some.injEq, Prod.mk.injEq] at hP
    obtain ⟨rfl, rfl⟩ := hP
    obtain ⟨m1, hl0, q2⟩ := look_app hl
    obtain ⟨J, d0, d, h1, h2, h3⟩ := h.run env en S As i0 p0 _ he nd hP0 hl0
    obtain ⟨m0, d0', A, g1, g2, g3, g4, g5⟩ := look_rep he hl0
    rw [h2] at g2; cases g2
    obtain ⟨e, A1, A', A2, k1, k2, k3, k4⟩ := at_rep g4 g5
    have := h3.det k1
    subst this
    obtain ⟨c, B1, B', B2, c1, c2, c3, c4⟩ := sub_rep k3 q2
    refine ⟨J, d0, c, ?_, h2, PathR.snoc h3 c1⟩
    obtain ⟨n, fs, rfl, e2, e3, e4⟩ := c1
    have hn : (S ++ J)[n]? = some (.ins C fs) := by rw [get_app (List.getElem?_eq_some_iff.mp e2).1]; exact e2
    have hi : insAt (S ++ J) C (.ref n) = some (n, fs) := by simp [insAt, hn]
    show (f en S).bind _ = _
    rw [h1]
    simp only [Rs.bind, hi, lookup_at e3 e4]
  · cases hP
/-- the receiver is there -/
theorem meth_eq {F : FN} {fa : FA} {env : Env} {en : En} {S : So} {As : List (List Nat)} {i : Nat} {p : List Stp} {ns : List Str} {ms : List M} (hp : SimP s fo P) (he : EnvR S env en As) (nd : Nd As.flatten) (hP : P env = some (i, p)) (hl : env.look i p = some (.ins C ns ms)) (hm : m ∉ ns) :
    fMeth C m F fo fa en S = fCall F (fCons fo fa) en S := by
  obtain ⟨J, d0, d, h1, h2, h3⟩ := hp.run env en S As i p _ he nd hP hl
  obtain ⟨m0, d0', A, g1, g2, g3, g4, g5⟩ := look_rep he hl
  rw [h2] at g2; cases g2
  obtain ⟨e, A1, A', A2, k1, k2, k3, k4⟩ := at_rep g4 g5
  have := h3.det k1
  subst this
  unfold Rep at k3
  obtain ⟨n, fs, B, rfl, w1, w2, w3, w4, w5⟩ := k3
  have hn : (S ++ J)[n]? = some (.ins C fs) := by rw [get_app (List.getElem?_eq_some_iff.mp w1).1]; exact w1
  have hi : insAt (S ++ J) C (.ref n) = some (n, fs) := by simp [insAt, hn]
  have hlk : fs.lookup m = none := lookup_no fun q => hm (by rw [w3] at q; exact List.mem_of_mem_take q)
  unfold fMeth fCall fCons
  rw [h1]
  simp only [Rs.bind, hi, hlk, if_true]
  cases fa en (S ++ J) <;> rfl
/-- a method -/
def vMeth (C : Addr) (m : Str) (V : VN) (P : Pl) (w : Env → Rv (List Ar)) : VE := fun env => match P env with
  | some (i, p) => match env.look i p with
    | some (.ins C' ns _) => if C' = C ∧ m ∉ ns then vCall V (wPl P w) env else .no
    | _ => .no
  | none => .no
theorem se_meth {qq pa : Bool} {I : List Nat} {F : FN} {V : VN} {n : Nat} {ks : List Bool} {fa : FA} {w : Env → Rv (List Ar)} (hF : NSim qq I F V) (hn : ∀ ms, ms.length ≠ n → V ms = .no) (hp : SimP s fo P) (hw : SimI pa ks fa w) (hk : ∀ k, (true :: ks)[k]? = some true → k ∈ I) (hx : (s || pa) = true := by rfl) :
    SimE false true (fMeth C m (F.len n) fo fa) (vMeth C m V P w) := ⟨fun env en S As he nd => by
  unfold vMeth
  split
  · rename_i i p hP
    split
    · rename_i C' ns ms hl
      split
      · rename_i hc
        obtain ⟨rfl, hm⟩ := hc
        rw [meth_eq hp he nd hP hl hm]
        exact (se_call hF hn (si_pl hp hw hx) hk).run env en S As he nd
      · exact trivial
    · exact trivial
  · exact trivial⟩
/-- a method that changes nothing -/
def vMethR (C : Addr) (m : Str) (V : VN) (P : Pl) (w : Env → Rv (List Ar)) : VE := fun env => match P env with
  | some (i, p) => match env.look i p with
    | some (.ins C' ns _) => if C' = C ∧ m ∉ ns then vCallR V (wPl P w) env else .no
    | _ => .no
  | none => .no
theorem se_methR {pa : Bool} {I : List Nat} {F : FN} {V : VN} {n : Nat} {ks : List Bool} {fa : FA} {w : Env → Rv (List Ar)} (hF : NSim true I F V) (hn : ∀ ms, ms.length ≠ n → V ms = .no) (hp : SimP s fo P) (hw : SimI pa ks fa w) (hk : ∀ k, (true :: ks)[k]? = some true → k ∈ I) (hx : (s || pa) = true := by rfl) :
    SimE pa true (fMeth C m (F.len n) fo fa) (vMethR C m V P w) := ⟨fun env en S As he nd => by
  unfold vMethR
  split
  · rename_i i p hP
    split
    · rename_i C' ns ms hl
      split
      · rename_i hc
        obtain ⟨rfl, hm⟩ := hc
        rw [meth_eq hp he nd hP hl hm]
        exact (se_callR hF hn (si_pl hp hw hx) hk).run env en S As he nd
      · exact trivial
    · exact trivial
  · exact trivial⟩
end plc
/-- C(..): the new instance, its names ns -/
def mkV (r : Rn) (e : Env) : Rv M := match r with
  | .ok (.val .non) os => (match os[0]? with
    | some (some m) => .ok m e
    | _ => .no)
  | .ex E _ => .ex E e
  | _ => .no
def vMake (C : Addr) (ns : List Str) (V : VN) (w : VA) : VE := fun env => (w env).bind fun ms e => mkV (V (.ins C ns [] :: ms)) e
theorem se_make {qq p : Bool} {I : List Nat} {F : FN} {V : VN} {n : Nat} {C : Addr} {ns : List Str} {fa : FA} {w : VA} (hF : NSim qq I F V) (hn : ∀ ms, ms.length ≠ n → V ms = .no) (h0 : 0 ∈ I) (hns : ns.Nodup) (hw : SimA p fa w) : SimE false true (fMake C (F.len n) fa) (vMake C ns V w) := by
  have := SimR.bind (R2 := RE true) (p2 := false) (k := fun ds en S1 => match FN.len F n (.ref S1.length :: ds) (S1 ++ [.ins C []]) with
    | .ok .non S2 => .ok (.ref S1.length) S2
    | .ex E S2 => .ex E S2
    | _ => .no) (kv := fun ms e => mkV (V (.ins C ns [] :: ms)) e) hw fun ms ds env en S As B he r nd => by
    have r1 : Reps (S ++ [.ins C []]) (.ins C ns [] :: ms) (.ref S.length :: ds) ([S.length] ++ B) := by
      refine Reps.cons ?_ r.more
      unfold Rep
      exact ⟨S.length, [], [], rfl, by simp, hns, rfl, Reps.nil, rfl⟩
    have hB : ∀ z ∈ B, z < S.length := r.lt
    have nd1 : Nd ([S.length] ++ B) := (Nd.one _).app nd.right fun z hz q => by
      simp at hz; subst hz
      have := hB _ q; omega
    have q := (hF.len hn).run _ _ _ _ r1 nd1
    have hAs : ∀ z ∈ As.flatten, z < S.length := he.lt
    have same : ∀ {S' : So} {A : List Nat}, Fr (S ++ [.ins C []]) ([S.length] ++ B) S' A → ∀ z ∈ As.flatten, S'[z]? = S[z]? := fun h z hz => by
      rw [h.same z (by have := hAs z hz; simp; omega) (fun q => by
        simp only [List.mem_append, List.mem_singleton] at q
        rcases q with q | q
        · have := hAs z hz; omega
        · exact nd.not hz q), get_app (hAs z hz)]
    have frw : ∀ {S' : So} {A : List Nat}, Fr (S ++ [.ins C []]) ([S.length] ++ B) S' A → Fr S (As.flatten ++ B) S' (As.flatten ++ A) := fun h => by
      refine ⟨Nat.le_trans (by simp) h.len, fun z hz hq => ?_, fun z hz => ?_⟩
      · rw [h.same z (by simp; omega) (fun q => by
          simp only [List.mem_append, List.mem_singleton] at q
          rcases q with q | q
          · omega
          · exact hq (by simp [q])), get_app hz]
      · rcases List.mem_append.mp hz with hz | hz
        · exact .inl (by simp [hz])
        · rcases h.new z hz with q | q
          · simp only [List.mem_append, List.mem_singleton] at q
            rcases q with q | q
            · exact .inr (by omega)
            · exact .inl (by simp [q])
          · exact .inr (by simp at q; omega)
    have dsj : ∀ {S' : So} {A : List Nat}, Fr (S ++ [.ins C []]) ([S.length] ++ B) S' A → Nd A → Nd (As.flatten ++ A) := fun h ha => nd.left.app ha fun z hz q => by
      rcases h.new z q with q | q
      · simp only [List.mem_append, List.mem_singleton] at q
        rcases q with q | q
        · have := hAs z hz; omega
        · exact nd.not hz q
      · have := hAs z hz
        simp at q; omega
    show SimAt _ _ _ _ _ _ _ (mkV (V (.ins C ns [] :: ms)) env)
    cases hv : V (.ins C ns [] :: ms) with
    | no => exact trivial
    | ex E os =>
      rw [hv] at q
      obtain ⟨S', Bs, g1, g2, g4, g5, _⟩ := q
      rw [g1]
      exact ⟨S', As, rfl, he.frame (same g5), nd.left, (frw g5).sub fun z hz => by simp [hz], fun z => by cases z⟩
    | ok m os =>
      rw [hv] at q
      obtain ⟨d, S', Bs, B', g1, g2, g3, g4, g5, _⟩ := q
      cases m with
      | val x =>
        cases x with
        | non =>
          obtain ⟨rfl, _, rfl⟩ := rep_val0 g3
          rw [g1]
          have key : ∀ mm, os[0]? = some (some mm) → SimAt (RE true) false S env en (As.flatten ++ B) (Rs.ok (.ref S.length) S') (Rv.ok mm env) := by
            intro mm hos
            obtain ⟨dd, BB, w1, w2, w3⟩ := g2 0 h0 mm hos
            simp at w1
            subst w1
            have hsub : ∀ z ∈ BB, z ∈ Bs.flatten := fun z hz => List.mem_flatten.mpr ⟨BB, List.mem_of_getElem? w2, hz⟩
            have ndB : Nd BB := g4.left.le fun a => by
              have := List.getElem?_eq_some_iff.mp w2
              obtain ⟨hl, rfl⟩ := this
              have hc : ∀ (L : List (List Nat)) (j : Nat) (h : j < L.length), (L[j]).count a ≤ L.flatten.count a := by
                intro L
                induction L with
                | nil => intro j h; simp at h
                | cons y L ih =>
                  intro j h
                  cases j with
                  | zero => simp [List.count_append]
                  | succ j =>
                    have := ih j (by simp at h; omega)
                    simp only [List.getElem_cons_succ, List.flatten_cons, List.count_append]
                    omega
              exact hc Bs 0 hl
            refine ⟨.ref S.length, S', As, BB, rfl, he.frame (same g5), w3, ?_, ?_, fun z => by cases z⟩
            · exact dsj (g5.sub fun z hz => by simp [hsub z hz]) ndB
            · exact (frw g5).sub fun z hz => by
                rcases List.mem_append.mp hz with hz | hz
                · simp [hz]
                · simp [hsub z hz]
          show SimAt (RE true) false S env en (As.flatten ++ B) (Rs.ok (D.ref S.length) S') (match os[0]? with
            | some (some m) => .ok m env
            | _ => .no)
          cases hos : os[0]? with
          | none => exact trivial
          | some oo =>
            cases oo with
            | none => exact trivial
            | some mm => exact key mm hos
        | _ => exact trivial
      | _ => exact trivial
  rw [Bool.and_false] at this
  exact this
end VF

namespace VF
open PySem L2 PF
variable [Tab]
/-! ### a field is set -/
theorem putD_new {x : Str} {d : D} : ∀ {fs : List (Str × D)}, x ∉ fs.map (·.1) → putD x d fs = fs ++ [(x, d)]
  | [], _ => rfl
  | (y, e) :: fs, h => by
    have hy : ¬ y = x := fun q => h (by simp [q])
    simp only [putD, if_neg hy, List.cons_append]
    rw [putD_new fun q => h (by simp at q ⊢; exact .inr q)]
theorem putD_at {x : Str} {d : D} : ∀ {fs : List (Str × D)} {k : Nat} {e : D}, fs[k]? = some (x, e) → (∀ j, j < k → ∀ y, fs[j]? = some y → y.1 ≠ x) → putD x d fs = fs.set k (x, d)
  | [], k, e, h, _ => by simp at h
  | (y, c) :: fs, 0, e, h, _ => by
    simp at h
    obtain ⟨rfl, rfl⟩ := h
    simp [putD]
  | (y, c) :: fs, k + 1, e, h, hn => by
    have hy := hn 0 (by omega) (y, c) rfl
    simp only [putD, if_neg hy, List.set_cons_succ]
    rw [putD_at (by simpa using h) (fun j hj z hz => hn (j + 1) (by omega) z (by simpa using hz))]
def setM (ms : List M) (k : Nat) (m : M) : List M := if k = ms.length then ms ++ [m] else ms.set k m
theorem put_rep {S S2 : So} {x : Str} {dv : D} {m : M} {B B0 : List Nat} {ns : List Str} {fs : List (Str × D)} {ms : List M} {k : Nat} (hr : Reps S ms (fs.map (·.2)) B0) (hns : ns.Nodup) (hf : fs.map (·.1) = ns.take fs.length) (hx : ns[k]? = some x) (hk : k ≤ ms.length) (r : Rep S2 m dv B) (fr : ∀ n ∈ B0, S2[n]? = S[n]?) :
    ∃ B1, Reps S2 (setM ms k m) ((putD x dv fs).map (·.2)) B1 ∧ (putD x dv fs).map (·.1) = ns.take (putD x dv fs).length ∧ (∀ a, B1.count a ≤ B0.count a + B.count a) ∧ ∀ a ∈ B1, a ∈ B0 ∨ a ∈ B := by
  have hlen : ms.length = fs.length := by simpa using hr.length
  unfold setM
  by_cases c : k = ms.length
  · rw [if_pos c]
    have hno : x ∉ fs.map (·.1) := fun q => by
      rw [hf] at q
      obtain ⟨j, hj⟩ := List.getElem?_of_mem q
      rw [List.getElem?_take] at hj
      split at hj
      · exact nodup_take_ne hns hx hj (by omega) rfl
      · cases hj
    rw [putD_new hno]
    refine ⟨B0 ++ (B ++ []), ?_, ?_, fun a => by simp, fun a ha => by simpa using ha⟩
    · rw [List.map_append]
      exact (hr.frame fr).append (Reps.cons r Reps.nil)
    · rw [List.map_append, hf, List.length_append]
      have : ns.take (fs.length + 1) = ns.take fs.length ++ [x] := by rw [List.take_succ, ← hlen, ← c, hx]; rfl
      simpa using this.symm
  · rw [if_neg c]
    have hkl : k < ms.length := by omega
    obtain ⟨e, A1, A', A2, g1, rfl, g3, g4⟩ := Reps.at hr (List.getElem?_eq_getElem hkl)
    have hk2 : k < fs.length := by omega
    have hfk : fs[k]? = some (x, e) := by
      rw [List.getElem?_map, List.getElem?_eq_getElem hk2] at g1
      have e2 : (fs.map (·.1))[k]? = some x := by rw [hf, List.getElem?_take, if_pos hk2]; exact hx
      rw [List.getElem?_map, List.getElem?_eq_getElem hk2] at e2
      rw [List.getElem?_eq_getElem hk2]
      simp only [Option.map_some, Option.some.injEq] at g1 e2
      rw [← g1, ← e2]
    have hbefore : ∀ j, j < k → ∀ y, fs[j]? = some y → y.1 ≠ x := fun j hj y hy => by
      have hjl : j < fs.length := by omega
      have e2 : (fs.map (·.1))[j]? = ns[j]? := by rw [hf, List.getElem?_take, if_pos hjl]
      rw [List.getElem?_map, hy] at e2
      exact nodup_take_ne hns hx e2.symm hj
    rw [putD_at hfk hbefore]
    refine ⟨A1 ++ B ++ A2, ?_, ?_, fun a => by simp only [List.count_append]; omega, fun a ha => by simp only [List.mem_append] at ha ⊢; rcases ha with (ha | ha) | ha <;> simp [ha]⟩
    · have := g4 S2 m dv B (fun n hn => fr n (by simp only [List.mem_append] at hn ⊢; rcases hn with hn | hn <;> simp [hn])) r
      rw [List.map_set]; exact this
    · rw [List.map_set, List.length_set, hf]
      refine set_self ?_
      rw [List.getElem?_take, if_pos hk2]; exact hx
/-- o.x = m -/
def setF (C : Addr) (k : Nat) (x : Str) (env : Env) (i : Nat) (p : List Stp) (m : M) : Option Env := match env.o[i]? with
  | some (some m0) => match m0.at p with
    | some (.ins C' ns ms) => if C' = C ∧ ns[k]? = some x ∧ k ≤ ms.length ∧ ms.length < 1000 then some (env.up i (some (m0.wrs p (.ins C ns (setM ms k m))))) else none
    | _ => none
  | _ => none
def tFld (C : Addr) (k : Nat) (x : Str) (P : Pl) : VG := fun m env => match P env with
  | some (i, p) => setF C k x env i p m
  | none => none
theorem set_fld {S : So} {env : Env} {en : En} {As : List (List Nat)} {i : Nat} {p : List Stp} {d0 d dv : D} {m : M} {B : List Nat} {k : Nat} {x : Str} {C : Addr} {e' : Env} (he : EnvR S env en As) (h0 : en[i]? = some (some d0)) (hp : PathR S p d0 d) (r : Rep S m dv B) (nd : Nd (As.flatten ++ B)) (h : setF C k x env i p m = some e') :
    ∃ n fs As', insAt S C d = some (n, fs) ∧ fs.length < 1000 ∧ EnvR (S.set n (.ins C (putD x dv fs))) e' en As' ∧ Nd As'.flatten ∧ Fr S (As.flatten ++ B) (S.set n (.ins C (putD x dv fs))) As'.flatten := by
  unfold setF at h
  split at h
  · rename_i m0 hm0
    split at h
    · rename_i C' ns ms hms
      split at h
      · rename_i hc
        obtain ⟨rfl, hx, hk, hl⟩ := hc
        cases h
        obtain ⟨d0', A, g1, g2, g3⟩ := at_var he hm0
        rw [h0] at g1; cases g1
        obtain ⟨e, A1, A', A2, k1, rfl, k3, k4⟩ := at_rep g3 hms
        have := hp.det k1
        subst this
        unfold Rep at k3
        obtain ⟨n, fs, B0, rfl, w1, w2, w3, w4, rfl⟩ := k3
        have hlen : ms.length = fs.length := by simpa using w4.length
        have hcnt : ∀ a, (As.set i []).flatten.count a + (A1 ++ (n :: B0) ++ A2).count a = As.flatten.count a := fun a => by
          have := count_set As i _ [] a g2
          simpa using this
        have ndAll : Nd (n :: ((As.set i []).flatten ++ (A1 ++ A2 ++ B0 ++ B))) := nd.le fun a => by
          have := hcnt a
          simp only [List.count_append, List.count_cons] at this ⊢
          omega
        have hnn := mem_nd ndAll
        have hnl : n < S.length := (List.getElem?_eq_some_iff.mp w1).1
        have fr : ∀ q, q ≠ n → (S.set n (.ins C' (putD x dv fs)))[q]? = S[q]? := fun q hq => List.getElem?_set_ne (fun z => hq z.symm)
        have ne : ∀ q, q ∈ (As.set i []).flatten ++ (A1 ++ A2 ++ B0 ++ B) → q ≠ n := fun q hq z => hnn (z ▸ hq)
        obtain ⟨B1, b1, b2, b3, b4⟩ := put_rep (S2 := S.set n (.ins C' (putD x dv fs))) w4 w2 w3 hx hk (r.frame fun q hq => fr q (ne q (by simp [hq]))) (fun q hq => fr q (ne q (by simp [hq])))
        have rep1 : Rep (S.set n (.ins C' (putD x dv fs))) (.ins C' ns (setM ms k m)) (.ref n) (n :: B1) := by
          unfold Rep
          exact ⟨n, putD x dv fs, B1, rfl, by rw [List.getElem?_set_self hnl], w2, b2, b1, rfl⟩
        have rep2 := k4 (S.set n (.ins C' (putD x dv fs))) (.ins C' ns (setM ms k m)) _ (fun q hq => fr q (ne q (by simp only [List.mem_append] at hq ⊢; rcases hq with hq | hq <;> simp [hq]))) rep1
        refine ⟨n, fs, (As.set i []).set i (A1 ++ (n :: B1) ++ A2), by simp [insAt, w1], by omega, ?_, ?_, ?_⟩
        · have he0 : EnvR S (env.up i none) en (As.set i []) := he.up i h0 (show SlotR S none (some d0) [] from rfl)
          have he1 : EnvR (S.set n (.ins C' (putD x dv fs))) (env.up i none) en (As.set i []) := he0.frame fun q hq => fr q (ne q (by simp only [List.mem_append]; exact .inl hq))
          have he2 := he1.up i h0 (slot_some rep2)
          have ee : (env.up i none).up i (some (m0.wrs p (.ins C' ns (setM ms k m)))) = env.up i (some (m0.wrs p (.ins C' ns (setM ms k m)))) := by
            unfold Env.up Env.kill
            simp [List.set_set, List.filter_filter]
          rw [ee] at he2
          exact he2
        · exact ndAll.le fun a => by
            have h1 := count_set_le (As.set i []) i (A1 ++ (n :: B1) ++ A2) a
            have h2 := b3 a
            simp only [List.count_append, List.count_cons] at h1 ⊢
            omega
        · refine ⟨by simp, fun q hl hq => fr q (fun z => hq ?_), fun q hq => .inl ?_⟩
          · subst z
            simp only [List.mem_append]
            exact .inl (List.mem_flatten.mpr ⟨_, List.mem_of_getElem? g2, by simp⟩)
          · have hA : ∀ q ∈ A1 ++ (n :: B0) ++ A2, q ∈ As.flatten := fun q hq => List.mem_flatten.mpr ⟨_, List.mem_of_getElem? g2, hq⟩
            rcases mem_set_flat hq with q1 | q1
            · exact List.mem_append.mpr (.inl ((mem_set_flat q1).elim id (by intro z; cases z)))
            · simp only [List.mem_append, List.mem_cons] at q1 ⊢
              rcases q1 with (q1 | q1 | q1) | q1
              · exact .inl (hA q (by simp [q1]))
              · exact .inl (hA q (by simp [q1]))
              · rcases b4 q q1 with q2 | q2
                · exact .inl (hA q (by simp [q2]))
                · exact .inr q2
              · exact .inl (hA q (by simp [q1]))
      · cases h
    · cases h
  · cases h
theorem sg_fld {s : Bool} {I : List Nat} {fo : FE} {P : Pl} (C : Addr) (k : Nat) (x : Str) (hp : SimP s fo P) : SimG false I (gtFld C x fo) (tFld C k x P) := ⟨fun m dv B env en S As he r nd => by
  unfold tFld
  cases hP : P env with
  | none => exact trivial
  | some q =>
    obtain ⟨i, p⟩ := q
    dsimp only
    cases hs : setF C k x env i p m with
    | none => exact trivial
    | some e' =>
      have hl : ∃ y, env.look i p = some y := by
        unfold setF at hs
        unfold Env.look
        split at hs
        · rename_i m0 hm0
          try rw [hm0]
          split at hs
          · rename_i C' ns ms hms
            exact ⟨_, hms⟩
          · cases hs
        · cases hs
      obtain ⟨y, hl⟩ := hl
      obtain ⟨J, d0, d, h1, h2, h3⟩ := hp.run env en S As i p y he nd.left hP hl
      obtain ⟨n, fs, As', w0, w1, w2, w3, w4⟩ := set_fld (he.more (J := J)) h2 h3.more (r.more (J := J)) nd hs
      refine ⟨en, (S ++ J).set n (.ins C (putD x dv fs)), As', ?_, w2, w3, ?_, Kp.refl, Mo.no⟩
      · simp only [gtFld, h1, w0, if_pos w1]
      · have f1 : Fr S (As.flatten ++ B) (S ++ J) (As.flatten ++ B) := Fr.more
        exact f1.trans w4⟩
end VF

namespace VF
open PySem L2 PF
variable [Tab]
/-! ### range with a step -/
section r3
variable {pa : Bool} {gs : FA} {ws : VA}
theorem nrs_rg3 (i j c : Int) : nrs (rg3 i j c) = true := nrs_all fun d hd => by
  obtain ⟨i, _, rfl⟩ := List.mem_map.mp hd; rfl
def rng3M : Option (List Int) → Option (List D)
  | some [i, j, c] => if rg3Ok i j c = true then some (rg3 i j c) else none
  | _ => none
def viRng3 (va : VA) : VI := fun env => (va env).bind fun ms e => ofI2 (rng3M (intsM ms)) e
theorem sf_rng3 (ha : SimAV pa gs ws) (h1 : ∀ env ms e, ws env = .ok ms e → ms.length = 3) : SimF pa true (fiRng3 gs) (viRng3 ws) := by
  refine ⟨fun env en S As he nd => ?_⟩
  have q := ha.run env en S As he nd
  unfold viRng3
  cases hw : ws env with
  | no => exact trivial
  | ex C e =>
    rw [hw] at q
    obtain ⟨S', As', e1, e2, e3, e4, e5⟩ := q
    exact ⟨S', As', by simp [fiRng3, e1], e2, e3, e4, e5⟩
  | ok ms e =>
    rw [hw] at q
    obtain ⟨ds, S', As', B, e1, e2, e3, e4, e5, e6⟩ := q
    show SimAt _ _ _ _ _ _ _ (ofI2 (rng3M (intsM ms)) e)
    have hl := h1 env ms e hw
    cases hi : intsM ms with
    | none => exact trivial
    | some ns =>
      have hm := intsM_eq hi
      rw [hm] at e3 hl
      have hd := rav_ints e3
      match ns with
      | [i, j, c] =>
        simp only [rng3M]
        by_cases hj : rg3Ok i j c = true
        · rw [if_pos hj]
          refine ⟨.items (rg3 i j c), S', As', [], ?_, e2, ⟨rfl, nrs_rg3 _ _ _, .inl rfl⟩, by simpa using e4.left, e5.sub (fun n hn => by simp at hn ⊢; exact .inl hn), e6⟩
          unfold fiRng3
          rw [e1, hd]
          show (if rg3Ok i j c = true then _ else _) = _
          rw [if_pos hj]
        · rw [if_neg hj]; exact trivial
      | [] => simp at hl
      | [_] => simp at hl
      | [_, _] => simp at hl
      | _ :: _ :: _ :: _ :: _ => simp at hl
@[simp] theorem viRng3_eq {env : Env} : viRng3 ws env = (ws env).bind fun ms e => ofI2 (rng3M (intsM ms)) e := rfl
@[simp] theorem rng3M_3 (i j c : Int) : rng3M (some [i, j, c]) = if rg3Ok i j c = true then some (rg3 i j c) else none := rfl
end r3
end VF

namespace VF
open PySem L2 PF
variable [Tab]
/-! ### raise C(e) -/
section rs
variable {p : Bool} {I : List Nat} {fa : FA} {wa : VA} {C : Addr}
def vRaiseE (C : Addr) (wa : VA) : VS := fun env => vthen (wa env) fun ms e => if ms.length = 1 then .ex C e else .no
theorem ss_raiseE (h : SimAV p fa wa) : SimS p I (fRaiseE C fa) (vRaiseE C wa) := ⟨fun env en S As he nd => by
  have := SimAt.then (q := true) (I := I) (k := fun ds S1 => if ds.length = 1 then Fl.ex C en S1 else .no) (kv := fun ms e => if ms.length = 1 then Vl.ex C e else .no) (h.run env en S As he nd) fun a b env1 S1 As1 B he1 r1 nd1 => by
    by_cases c : a.length = 1
    · rw [if_pos c, if_pos (by rw [← r1.2.1]; exact c)]
      exact ⟨en, S1, As1, rfl, he1, nd1.left, Fr.refl.sub (fun n hn => by simp [hn]), Kp.refl, Mo.refl⟩
    · rw [if_neg c]; exact trivial
  rw [Bool.and_true] at this
  exact this⟩
@[simp] theorem vRaiseE_eq {env : Env} : vRaiseE C wa env = vthen (wa env) fun ms e => if ms.length = 1 then .ex C e else .no := rfl
end rs
/-! ### texts with instances run -/
section eqs
variable {env : Env} {C : Addr} {k : Nat} {x m : Str} {P : Pl} {V : VN} {w : Env → Rv (List Ar)} {wa : VA} {i : Nat}
def plS (o : Option (Nat × List Stp)) (s : Stp) : Option (Nat × List Stp) := match o with
  | some (i, p) => some (i, p ++ [s])
  | none => none
@[simp] theorem plS_some (p : List Stp) (s : Stp) : plS (some (i, p)) s = some (i, p ++ [s]) := rfl
@[simp] theorem pFld_eq : pFld C k x P env = plS (P env) (.fld C k x) := rfl
def inS (o : Option M) (C : Addr) (m : Str) (r : Rv M) : Rv M := match o with
  | some (.ins C' ns _) => if C' = C ∧ m ∉ ns then r else .no
  | _ => .no
@[simp] theorem inS_ins (C' : Addr) (ns : List Str) (ms : List M) (r : Rv M) : inS (some (.ins C' ns ms)) C m r = if C' = C ∧ m ∉ ns then r else .no := rfl
def meS (o : Option (Nat × List Stp)) (env : Env) (C : Addr) (m : Str) (r : Rv M) : Rv M := match o with
  | some (i, p) => inS (env.look i p) C m r
  | none => .no
@[simp] theorem meS_some (p : List Stp) (r : Rv M) : meS (some (i, p)) env C m r = inS (env.look i p) C m r := rfl
@[simp] theorem vMeth_eq : vMeth C m V P w env = meS (P env) env C m (vCall V (wPl P w) env) := by
  unfold vMeth meS
  cases P env with
  | none => rfl
  | some q =>
    obtain ⟨i, p⟩ := q
    dsimp only
    unfold inS
    rfl
@[simp] theorem vMethR_eq : vMethR C m V P w env = meS (P env) env C m (vCallR V (wPl P w) env) := by
  unfold vMethR meS
  cases P env with
  | none => rfl
  | some q =>
    obtain ⟨i, p⟩ := q
    dsimp only
    unfold inS
    rfl
@[simp] theorem mkV_ok (mm : M) (os : List (Option M)) (e : Env) : mkV (.ok (.val .non) (some mm :: os)) e = .ok mm e := rfl
@[simp] theorem mkV_ex (E : Addr) (os : List (Option M)) (e : Env) : mkV (.ex E os) e = .ex E e := rfl
@[simp] theorem vMake_eq (ns : List Str) : vMake C ns V wa env = (wa env).bind fun ms e => mkV (V (.ins C ns [] :: ms)) e := rfl
def setFo (o : Option (Option M)) (C : Addr) (k : Nat) (x : Str) (p : List Stp) (m : M) (f : M → Env) : Option Env := match o with
  | some (some m0) => match m0.at p with
    | some (.ins C' ns ms) => if C' = C ∧ ns[k]? = some x ∧ k ≤ ms.length ∧ ms.length < 1000 then some (f (m0.wrs p (.ins C ns (setM ms k m)))) else none
    | _ => none
  | _ => none
@[simp] theorem setFo_some (m0 : M) (p : List Stp) (mm : M) (f : M → Env) : setFo (some (some m0)) C k x p mm f = match m0.at p with
    | some (.ins C' ns ms) => if C' = C ∧ ns[k]? = some x ∧ k ≤ ms.length ∧ ms.length < 1000 then some (f (m0.wrs p (.ins C ns (setM ms k mm)))) else none
    | _ => none := rfl
@[simp] theorem setF_eq (p : List Stp) (mm : M) : setF C k x env i p mm = setFo env.o[i]? C k x p mm fun z => env.up i (some z) := rfl
@[simp] theorem tFld_eq (mm : M) : tFld C k x P mm env = match P env with
  | some (i, p) => setF C k x env i p mm
  | none => none := rfl
@[simp] theorem wrs_fld (C' : Addr) (ns : List Str) (ms : List M) (p : List Stp) (m2 : M) : M.wrs (.fld C k x :: p) (.ins C' ns ms) m2 = if C' = C ∧ ns[k]? = some x then (match ms[k]? with
    | some m' => .ins C' ns (ms.set k (M.wrs p m' m2))
    | none => .ins C' ns ms) else .ins C' ns ms := by
  simp only [M.wrs, M.sub]
  by_cases h : C' = C ∧ ns[k]? = some x
  · rw [if_pos h, if_pos h]
    cases ms[k]? <;> rfl
  · rw [if_neg h, if_neg h]
@[simp] theorem wrs_ix (j : Nat) (ms : List M) (p : List Stp) (m2 : M) : M.wrs (.ix j :: p) (.lst ms) m2 = match ms[j]? with
    | some m' => .lst (ms.set j (M.wrs p m' m2))
    | none => .lst ms := by
  simp only [M.wrs, M.sub]
  cases ms[j]? <;> rfl
end eqs
end VF

namespace VF
open PySem L2 PF
variable [Tab]
theorem nrs_rows : ∀ rs : List (List Int), nrs (rs.map rowD) = true
  | [] => by simp [nrs]
  | r :: rs => by
    rw [List.map_cons]
    simp only [nrs, rowD, nr, Bool.and_eq_true]
    exact ⟨nrs_ints r, nrs_rows rs⟩
theorem sorted_none {S : So} {xs ds : List D} (h : VwDs S xs ds) (q : gSorted false xs [] = none) : gSorted false ds S = none := by
  cases ds with
  | nil => rfl
  | cons d ds =>
    cases ds with
    | cons e ds => rfl
    | nil =>
      cases xs with
      | nil => cases h
      | cons x xs =>
        cases xs with
        | cons y xs =>
          obtain ⟨d', r, e, h1, e', r2, e2, h2, _⟩ := h
          cases e; cases e2
        | nil =>
          obtain ⟨d', e, h1⟩ := vwds1 h
          cases e
          unfold gSorted at q ⊢
          simp only [ls_vw h1]
          simp only at q
          cases e1 : lsOf [] x with
          | none => rfl
          | some xs =>
            rw [e1] at q
            simp only at q ⊢
            cases e2 : intsOf xs with
            | none => rfl
            | some ns => rw [e2] at q; cases q
theorem cv_sortR : CallV (gSortR false) := ⟨fun S xs ds r T h q => by
  unfold gSortR at q
  split at q
  · obtain ⟨d, rfl, h1⟩ := vwds1 h
    unfold gSortR
    simp only [sq_vw h1]
    split at q
    · split at q
      · simp only [newL_f, Option.some.injEq, Prod.mk.injEq] at q ⊢
        obtain ⟨rfl, _⟩ := q
        exact ⟨⟨rfl, trivial⟩, by simp only [nr]; exact nrs_rows _⟩
      · cases q
    · cases q
  · cases q⟩
theorem cv_sortA : CallV (gSortA false) := ⟨fun S xs ds r T h q => by
  unfold gSortA at q ⊢
  cases h1 : gSorted false xs [] with
  | some y =>
    rw [h1] at q
    cases q
    obtain ⟨e1, e2⟩ := cv_sorted.run S xs ds r T h h1
    rw [e1]
    exact ⟨rfl, e2⟩
  | none =>
    rw [h1] at q
    rw [sorted_none h h1]
    exact cv_sortR.run S xs ds r T h q⟩
theorem sorted_noneM {S : So} {es : List D} (h : gSorted false es S = none) : gSorted true es S = none := by
  unfold gSorted at h ⊢
  split at h
  · split at h
    · split at h
      · cases h
      · rfl
    · rfl
  · rfl
theorem own_sortR : OwnCall (gSortR false) (gSortR true) := ⟨fun S es ds h => by
  unfold gSortR at h ⊢
  split at h
  · split at h
    · split at h
      · simp only [newL_f, Option.some.injEq, Prod.mk.injEq, D.lst.injEq] at h
        simp only [newL_t, h.1]
      · cases h
    · cases h
  · cases h⟩
theorem own_sortA : OwnCall (gSortA false) (gSortA true) := ⟨fun S es ds h => by
  unfold gSortA at h ⊢
  cases h1 : gSorted false es S with
  | some y =>
    rw [h1] at h
    cases h
    rw [own_sorted.run S es ds h1]
  | none =>
    rw [h1] at h
    rw [sorted_noneM h1]
    exact own_sortR.run S es ds h⟩
end VF

namespace VF
open PySem L2 PF
variable [Tab]
theorem gAdd_lst {xs ys : List D} {S : So} (h : xs.length + ys.length ≤ 1000000) : gAdd false (.lst xs) (.lst ys) S = some (.lst (xs ++ ys), S) := by
  show (if xs.length + ys.length ≤ sizeLine then _ else _) = _
  exact (if_pos (Nat.le_trans h (by decide))).trans rfl
theorem gAdd_tup {xs ys : List D} {S : So} (h : xs.length + ys.length ≤ 1000000) : gAdd false (.tup xs) (.tup ys) S = some (.tup (xs ++ ys), S) := by
  show (if xs.length + ys.length ≤ sizeLine then _ else _) = _
  exact if_pos (Nat.le_trans h (by decide))
theorem gAdd_lst0 {ys : List D} {S : So} (h : ys.length ≤ 1000000) : gAdd false (.lst []) (.lst ys) S = some (.lst ys, S) := by
  rw [gAdd_lst (by simpa using h)]; rfl
@[simp] theorem gSortA_ints (ns : List Int) {S : So} : gSortA false [.lst (ns.map D.int)] S = some (.lst ((isort ns).map D.int), S) := by
  simp only [gSortA, gSorted, lsOf, intsOf_map, newL_f]
end VF

namespace VF
open PySem L2 PF
variable [Tab]
/-- len(x), x a place that holds a list, of owned things too -/
def lenM (m : M) : Option M := match m with
  | .lst ms => some (.val (.int ms.length))
  | _ => none
def vLenP (P : Pl) : VE := fun env => match P env with
  | some (i, p) => match env.look i p with
    | some m => ofM (lenM m) env
    | none => .no
  | none => .no
theorem se_lenP {s : Bool} {f : FE} {P : Pl} (h : SimP s f P) : SimE true true (fCB gLen (fCons f fNil)) (vLenP P) := ⟨fun env en S As he nd => by
  unfold vLenP
  split
  · rename_i i p hP
    cases hl : env.look i p with
    | none => exact trivial
    | some m =>
      obtain ⟨J, d0, d, h1, h2, h3⟩ := h.run env en S As i p m he nd hP hl
      obtain ⟨m0, d0', A, g1, g2, g3, g4, g5⟩ := look_rep he hl
      rw [h2] at g2; cases g2
      obtain ⟨e, A1, A', A2, k1, k2, k3, k4⟩ := at_rep g4 g5
      have := h3.det k1
      subst this
      show SimAt _ _ _ _ _ _ _ (ofM (lenM m) env)
      cases m with
      | lst ms =>
        unfold Rep at k3
        obtain ⟨n, ds, B, rfl, q2, q3, q4⟩ := k3
        have hn : (S ++ J)[n]? = some (.lst ds) := get_app (List.getElem?_eq_some_iff.mp q2).1 |>.trans q2
        have e1 : fCB gLen (fCons f fNil) en S = .ok (.int ds.length) (S ++ J) := by
          simp only [fCB, fCons, fNil, h1, Rs.bind, gLen, hn, ofO]
        show SimAt _ _ _ _ _ _ _ (Rv.ok (M.val (.int ms.length)) env)
        rw [e1, q3.length]
        exact SimAt.ok (B := []) he nd (fun _ h => h) (by unfold RE Rep; exact ⟨rfl, rfl, rfl⟩) (by simpa using nd) (by simp)
      | _ => exact trivial
  · exact trivial⟩
@[simp] theorem lenM_lst (ms : List M) : lenM (.lst ms) = some (.val (.int ms.length)) := rfl
@[simp] theorem vLenP_eq {P : Pl} {env : Env} : vLenP P env = plK (P env) env fun _ _ m => ofM (lenM m) env := by
  unfold vLenP plK
  cases P env with
  | none => rfl
  | some q => obtain ⟨i, p⟩ := q; dsimp only <;> cases env.look i p <;> rfl
end VF

namespace Law
open PySem L2 PF VF
variable [Tab]
def f_is_key : FS :=
  fRet (fAndV (fIsi "int" (fVar 0)) (fAndV (fNotV (fIsi "bool" (fVar 0))) (fChain gLe gLe (fNeg (fC (.int 1000000000))) (fVar 0) (fC (.int 1000000000)))))
def v_is_key : VS :=
  vRet (vAndV (vIsi "int" (vVar 0)) (vAndV (vNotV (vIsi "bool" (vVar 0))) (vChain gLe gLe (vNeg (vC (.int 1000000000))) (vVar 0) (vC (.int 1000000000)))))
set_option maxHeartbeats 4000000 in
theorem s_is_key : SimS true [] (f_is_key) (v_is_key) :=
  ss_ret (se_andV (se_isi (se_var 0)) (se_andV (se_notV (se_isi (se_var 0))) (se_chain opv_le opv_le (se_neg (se_c)) (se_var 0) (se_c))))
def F_is_key : FN := runF ["thing"] (f_is_key)
def V_is_key : VN := runV 1 1 (v_is_key)
theorem n_is_key : NSim true [] (F_is_key) (V_is_key) := nsim_fn (s_is_key)
theorem e_is_key : ∀ ms, ms.length ≠ 1 → V_is_key ms = .no := run_len
def f_check_key (C_BadKey : Addr) (F_is_key : FN) : FS :=
  fIte (fNotT (fTru (fCall (FN.len F_is_key 1) (fCons (fVar 0) (fNil))))) (fRaise C_BadKey) (fNext)
def v_check_key (C_BadKey : Addr) (V_is_key : VN) : VS :=
  vIte (vNotT (vTru (vCallV V_is_key (vCons (vVar 0) (vNil))))) (vRaise C_BadKey) (vNext)
set_option maxHeartbeats 4000000 in
theorem s_check_key {C_BadKey : Addr} {F_is_key : FN} {V_is_key : VN}
    (n_is_key : NSim true [] F_is_key V_is_key) (e_is_key : ∀ ms, ms.length ≠ 1 → V_is_key ms = .no) : SimS true [] (f_check_key C_BadKey F_is_key) (v_check_key C_BadKey V_is_key) :=
  ss_ite (st_not (st_tru (se_callV n_is_key e_is_key (sa_cons (se_var 0) (sa_nil))))) (ss_raise) (ss_next)
def F_check_key (C_BadKey : Addr) : FN := runF ["thing"] (f_check_key C_BadKey F_is_key)
def V_check_key (C_BadKey : Addr) : VN := runV 1 1 (v_check_key C_BadKey V_is_key)
theorem n_check_key (C_BadKey : Addr) : NSim true [] (F_check_key C_BadKey) (V_check_key C_BadKey) := nsim_fn (s_check_key n_is_key e_is_key)
theorem e_check_key (C_BadKey : Addr) : ∀ ms, ms.length ≠ 1 → V_check_key C_BadKey ms = .no := run_len
def f_check_row_b1 (F_check_key : FN) : FS :=
  fExpr (fCall (FN.len F_check_key 1) (fCons (fVar 1) (fNil)))
def f_check_row (F_check_key : FN) : FS :=
  fFor 100000 (fiSeq (fVar 0)) (gtName 1) (f_check_row_b1 F_check_key)
def v_check_row_b1 (V_check_key : VN) : VS :=
  vExpr (vCallV V_check_key (vCons (vVar 1) (vNil)))
def v_check_row (V_check_key : VN) : VS :=
  vFor (viSeq (vVar 0)) (tName 1) (v_check_row_b1 V_check_key)
set_option maxHeartbeats 4000000 in
theorem s_check_row {F_check_key : FN} {V_check_key : VN}
    (n_check_key : NSim true [] F_check_key V_check_key) (e_check_key : ∀ ms, ms.length ≠ 1 → V_check_key ms = .no) : SimS true [] (f_check_row F_check_key) (v_check_row V_check_key) :=
  ss_for (sf_seq (se_var 0)) (sg_name (by decide)) (ss_expr (se_callV n_check_key e_check_key (sa_cons (se_var 1) (sa_nil))))
def F_check_row (C_BadKey : Addr) : FN := runF ["row", "one"] (f_check_row (F_check_key C_BadKey))
def V_check_row (C_BadKey : Addr) : VN := runV 1 2 (v_check_row (V_check_key C_BadKey))
theorem n_check_row (C_BadKey : Addr) : NSim true [] (F_check_row C_BadKey) (V_check_row C_BadKey) := nsim_fn (s_check_row (n_check_key C_BadKey) (e_check_key C_BadKey))
theorem e_check_row (C_BadKey : Addr) : ∀ ms, ms.length ≠ 1 → V_check_row C_BadKey ms = .no := run_len
def f_check_range (C_BadRange : Addr) : FS :=
  fIte (fNotT (fTst (fChain3 gLe gLe gLe (fC (.int 0)) (fVar 0) (fVar 1) (fVar 2)))) (fRaise C_BadRange) (fNext)
def v_check_range (C_BadRange : Addr) : VS :=
  vIte (vNotT (vTst (vChain3 gLe gLe gLe (vC (.int 0)) (vVar 0) (vVar 1) (vVar 2)))) (vRaise C_BadRange) (vNext)
set_option maxHeartbeats 4000000 in
theorem s_check_range {C_BadRange : Addr} : SimS true [] (f_check_range C_BadRange) (v_check_range C_BadRange) :=
  ss_ite (st_not (st_tst (se_chain3 opv_le opv_le opv_le (se_c) (se_var 0) (se_var 1) (se_var 2)))) (ss_raise) (ss_next)
def F_check_range (C_BadRange : Addr) : FN := runF ["low", "high", "many"] (f_check_range C_BadRange)
def V_check_range (C_BadRange : Addr) : VN := runV 3 3 (v_check_range C_BadRange)
theorem n_check_range (C_BadRange : Addr) : NSim true [] (F_check_range C_BadRange) (V_check_range C_BadRange) := nsim_fn (s_check_range)
theorem e_check_range (C_BadRange : Addr) : ∀ ms, ms.length ≠ 3 → V_check_range C_BadRange ms = .no := run_len
def f__law_dice : FS :=
  fSeq (fIte (fTst (fChain gLt gLt (fOp gMinus (fC (.int 0)) (fC (.int 10))) (fVar 0) (fC (.int 10)))) (fRet (fLst true (fCons (fCB gAbs (fCons (fVar 0) (fNil))) (fCons (fC (.int 0)) (fCons (fC (.int 2)) (fNil)))))) (fNext))
    (fRet (fLst true (fCons (fVar 0) (fCons (fOp (gAdd false) (fC (.int 1)) (fOp gMod (fCB gInt (fCons (fVar 0) (fNil))) (fC (.int 1009)))) (fCons (fCB gInt (fCons (fOp gGe (fVar 0) (fOp gPow (fC (.int 10)) (fC (.int 18)))) (fNil))) (fNil))))))
def v__law_dice : VS :=
  vSeq (vIte (vTst (vChain gLt gLt (vOp gMinus (vC (.int 0)) (vC (.int 10))) (vVar 0) (vC (.int 10)))) (vRet (vLstN (vCons (vCB gAbs (vCons (vVar 0) (vNil))) (vCons (vC (.int 0)) (vCons (vC (.int 2)) (vNil)))))) (vNext))
    (vRet (vLstN (vCons (vVar 0) (vCons (vOp (gAdd false) (vC (.int 1)) (vOp gMod (vCB gInt (vCons (vVar 0) (vNil))) (vC (.int 1009)))) (vCons (vCB gInt (vCons (vOp gGe (vVar 0) (vOp gPow (vC (.int 10)) (vC (.int 18)))) (vNil))) (vNil))))))
set_option maxHeartbeats 4000000 in
theorem s__law_dice : SimS true [] (f__law_dice) (v__law_dice) :=
  ss_seq (ss_ite (st_tst (se_chain opv_lt opv_lt (se_op opv_sub (se_c) (se_c)) (se_var 0) (se_c))) (ss_ret (se_lstN (sa_cons (se_cb cv_abs (sav_cons (se_var 0) (sav_nil))) (sa_cons (se_c) (sa_cons (se_c) (sa_nil)))))) (ss_next))
    (ss_ret (se_lstN (sa_cons (se_var 0) (sa_cons (se_op opv_add (se_c) (se_op opv_mod (se_cb cv_int (sav_cons (se_var 0) (sav_nil))) (se_c))) (sa_cons (se_cb cv_int (sav_cons (se_op opv_ge (se_var 0) (se_op opv_pow (se_c) (se_c))) (sav_nil))) (sa_nil))))))
def F__law_dice : FN := runF ["cell"] (f__law_dice)
def V__law_dice : VN := runV 1 1 (v__law_dice)
theorem n__law_dice : NSim true [] (F__law_dice) (V__law_dice) := nsim_fn (s__law_dice)
theorem e__law_dice : ∀ ms, ms.length ≠ 1 → V__law_dice ms = .no := run_len
def f__law_roll : FS :=
  fSeq (fIte (fOrT (fTst (fOp gEq (fOp gIx (fVar 0) (fC (.int 2))) (fC (.int 2)))) (fAndT (fTst (fOp gEq (fOp gIx (fVar 0) (fC (.int 2))) (fC (.int 1)))) (fTst (fOp gGtA (fOp gIx (fVar 0) (fC (.int 0))) (fC (.int 0)))))) (fSeq (fAsg (fOp gMod (fCB gInt (fCons (fOp gIx (fVar 0) (fC (.int 0))) (fNil))) (fVar 1)) (gtName 2))
    (fSeq (fAsg (fOp gFdiv (fOp gIx (fVar 0) (fC (.int 0))) (fVar 1)) (gtSub (fVar 0) (fC (.int 0))))
    (fRet (fVar 2)))) (fNext))
    (fSeq (fAsg (fC (.int 0)) (gtSub (fVar 0) (fC (.int 2))))
    (fSeq (fAsg (fOp gMod (fCB gInt (fCons (fOp (gAdd false) (fOp (gAdd false) (fOp (gMul false) (fOp gIx (fVar 0) (fC (.int 0))) (fC (.int 48271))) (fOp (gMul false) (fOp gIx (fVar 0) (fC (.int 1))) (fC (.int 69621)))) (fC (.int 11))) (fNil))) (fC (.int 2147483647))) (gtSub (fVar 0) (fC (.int 0))))
    (fSeq (fAsg (fOp (gAdd false) (fOp gIx (fVar 0) (fC (.int 1))) (fC (.int 1))) (gtSub (fVar 0) (fC (.int 1))))
    (fRet (fOp gMod (fCB gInt (fCons (fOp (gAdd false) (fOp gFdiv (fOp gIx (fVar 0) (fC (.int 0))) (fC (.int 7))) (fOp gIx (fVar 0) (fC (.int 0)))) (fNil))) (fVar 1))))))
def v__law_roll : VS :=
  vSeq (vIte (vOrT (vTst (vOp gEq (vOp gIx (vLk 0) (vC (.int 2))) (vC (.int 2)))) (vAndT (vTst (vOp gEq (vOp gIx (vLk 0) (vC (.int 2))) (vC (.int 1)))) (vTst (vOp gGtA (vOp gIx (vLk 0) (vC (.int 0))) (vC (.int 0)))))) (vSeq (vAsg (vOp gMod (vCB gInt (vCons (vOp gIx (vLk 0) (vC (.int 0))) (vNil))) (vVar 1)) (tName 2))
    (vSeq (vAsg (vOp gFdiv (vOp gIx (vLk 0) (vC (.int 0))) (vVar 1)) (tSub (pVar 0) (vC (.int 0))))
    (vRet (vVar 2)))) (vNext))
    (vSeq (vAsg (vC (.int 0)) (tSub (pVar 0) (vC (.int 2))))
    (vSeq (vAsg (vOp gMod (vCB gInt (vCons (vOp (gAdd false) (vOp (gAdd false) (vOp (gMul false) (vOp gIx (vLk 0) (vC (.int 0))) (vC (.int 48271))) (vOp (gMul false) (vOp gIx (vLk 0) (vC (.int 1))) (vC (.int 69621)))) (vC (.int 11))) (vNil))) (vC (.int 2147483647))) (tSub (pVar 0) (vC (.int 0))))
    (vSeq (vAsg (vOp (gAdd false) (vOp gIx (vLk 0) (vC (.int 1))) (vC (.int 1))) (tSub (pVar 0) (vC (.int 1))))
    (vRet (vOp gMod (vCB gInt (vCons (vOp (gAdd false) (vOp gFdiv (vOp gIx (vLk 0) (vC (.int 0))) (vC (.int 7))) (vOp gIx (vLk 0) (vC (.int 0)))) (vNil))) (vVar 1))))))
set_option maxHeartbeats 4000000 in
theorem s__law_roll : SimS false [0] (f__law_roll) (v__law_roll) :=
  ss_seq (ss_ite (st_or (st_tst (se_op opv_eq (se_op opv_ix (se_lk 0) (se_c)) (se_c))) (st_and (st_tst (se_op opv_eq (se_op opv_ix (se_lk 0) (se_c)) (se_c))) (st_tst (se_op opv_gtA (se_op opv_ix (se_lk 0) (se_c)) (se_c))))) (ss_seq (ss_asg (se_op opv_mod (se_cb cv_int (sav_cons (se_op opv_ix (se_lk 0) (se_c)) (sav_nil))) (se_var 1)) (sg_name (by decide)))
    (ss_seq (ss_asg (se_op opv_fdiv (se_op opv_ix (se_lk 0) (se_c)) (se_var 1)) (sg_sub (sp_var 0) (se_c)))
    (ss_ret (se_var 2)))) (ss_next))
    (ss_seq (ss_asg (se_c) (sg_sub (sp_var 0) (se_c)))
    (ss_seq (ss_asg (se_op opv_mod (se_cb cv_int (sav_cons (se_op opv_add (se_op opv_add (se_op opv_mul (se_op opv_ix (se_lk 0) (se_c)) (se_c)) (se_op opv_mul (se_op opv_ix (se_lk 0) (se_c)) (se_c))) (se_c)) (sav_nil))) (se_c)) (sg_sub (sp_var 0) (se_c)))
    (ss_seq (ss_asg (se_op opv_add (se_op opv_ix (se_lk 0) (se_c)) (se_c)) (sg_sub (sp_var 0) (se_c)))
    (ss_ret (se_op opv_mod (se_cb cv_int (sav_cons (se_op opv_add (se_op opv_fdiv (se_op opv_ix (se_lk 0) (se_c)) (se_c)) (se_op opv_ix (se_lk 0) (se_c))) (sav_nil))) (se_var 1))))))
def F__law_roll : FN := runF ["dice", "many", "found"] (f__law_roll)
def V__law_roll : VN := runV 2 3 (v__law_roll)
theorem n__law_roll : NSim false [0] (F__law_roll) (V__law_roll) := nsim_fn (s__law_roll)
theorem e__law_roll : ∀ ms, ms.length ≠ 2 → V__law_roll ms = .no := run_len
def f__law_rounds (F__law_dice : FN) : FS :=
  fSeq (fAsg (fSl false (fVar 0) (fNoPart) (fPart (fVar 1))) (gtName 2))
    (fSeq (fIte (fTst (fOp gEq (fVar 2) (fLst false (fNil)))) (fAsg (fLst false (fCons (fC (.int 0)) (fNil))) (gtName 2)) (fNext))
    (fRet (fLc 100000 true [3] (fiSeq (fVar 2)) (gtName 3) (fYes) (fCall (FN.len F__law_dice 1) (fCons (fVar 3) (fNil))))))
def v__law_rounds (V__law_dice : VN) : VS :=
  vSeq (vAsg (vSl (vVar 0) (vNoPart) (vPart (vVar 1))) (tName 2))
    (vSeq (vIte (vTst (vOp gEq (vVar 2) (vLst (vNil)))) (vAsg (vLst (vCons (vC (.int 0)) (vNil))) (tName 2)) (vNext))
    (vRet (vLcN [3] (viSeq (vVar 2)) (tName 3) (vYes) (vCallV V__law_dice (vCons (vVar 3) (vNil))))))
set_option maxHeartbeats 4000000 in
theorem s__law_rounds {F__law_dice : FN} {V__law_dice : VN}
    (n__law_dice : NSim true [] F__law_dice V__law_dice) (e__law_dice : ∀ ms, ms.length ≠ 1 → V__law_dice ms = .no) : SimS true [] (f__law_rounds F__law_dice) (v__law_rounds V__law_dice) :=
  ss_seq (ss_asg (se_sl (se_var 0) (sq_none) (sq_some (se_var 1))) (sg_name (by decide)))
    (ss_seq (ss_ite (st_tst (se_op opv_eq (se_var 2) (se_lst (sa_nil)))) (ss_asg (se_lst (sa_cons (se_c) (sa_nil))) (sg_name (by decide))) (ss_next))
    (ss_ret (se_lcN (sf_seq (se_var 2)) (so_name 3) (st_yes) (se_callV n__law_dice e__law_dice (sa_cons (se_var 3) (sa_nil))))))
def F__law_rounds : FN := runF ["script", "most", "cells", "cell"] (f__law_rounds F__law_dice)
def V__law_rounds : VN := runV 2 4 (v__law_rounds V__law_dice)
theorem n__law_rounds : NSim true [] (F__law_rounds) (V__law_rounds) := nsim_fn (s__law_rounds n__law_dice e__law_dice)
theorem e__law_rounds : ∀ ms, ms.length ≠ 2 → V__law_rounds ms = .no := run_len
def f__law_row (F__law_roll : FN) : FS :=
  fRet (fLc 100000 false [3] (fiRng1 (fCons (fCall (FN.len F__law_roll 2) (fCons (fVar 0) (fCons (fOp (gAdd false) (fVar 1) (fC (.int 1))) (fNil)))) (fNil))) (gtName 3) (fYes) (fOp gMinus (fCall (FN.len F__law_roll 2) (fCons (fVar 0) (fCons (fOp (gAdd false) (fOp (gMul false) (fC (.int 2)) (fVar 2)) (fC (.int 1))) (fNil)))) (fVar 2)))
def v__law_row (V__law_roll : VN) : VS :=
  vRet (vLcE [3] (viRng (vCons (vCall V__law_roll (wPl (pVar 0) (wTm (vOp (gAdd false) (vVar 1) (vC (.int 1))) (wNil)))) (vNil))) (tName 3) (vYes) (vOp gMinus (vCall V__law_roll (wPl (pVar 0) (wTm (vOp (gAdd false) (vOp (gMul false) (vC (.int 2)) (vVar 2)) (vC (.int 1))) (wNil)))) (vVar 2)) frzM)
set_option maxHeartbeats 4000000 in
theorem s__law_row {F__law_roll : FN} {V__law_roll : VN}
    (n__law_roll : NSim false [0] F__law_roll V__law_roll) (e__law_roll : ∀ ms, ms.length ≠ 2 → V__law_roll ms = .no) : SimS false [0] (f__law_row F__law_roll) (v__law_row V__law_roll) :=
  ss_ret (se_lcE (sf_rng1 (sav_cons (se_call n__law_roll e__law_roll (si_pl (sp_var 0) (si_tm (se_op opv_add (se_var 1) (se_c)) (si_nil))) (pl_ok rfl)) (sav_nil)) (len_cons len_nil)) (so_name 3) (st_yes) (se_op opv_sub (se_call n__law_roll e__law_roll (si_pl (sp_var 0) (si_tm (se_op opv_add (se_op opv_mul (se_c) (se_var 2)) (se_c)) (si_nil))) (pl_ok rfl)) (se_var 2)))
def F__law_row : FN := runF ["dice", "most", "wide", "k"] (f__law_row F__law_roll)
def V__law_row : VN := runV 3 4 (v__law_row V__law_roll)
theorem n__law_row : NSim false [0] (F__law_row) (V__law_row) := nsim_fn (s__law_row n__law_roll e__law_roll)
theorem e__law_row : ∀ ms, ms.length ≠ 3 → V__law_row ms = .no := run_len
end Law

namespace Law
open PySem L2 PF VF
variable [Tab]
/-! ### what the laws' own helpers tell -/
def dM (a b c : Int) : M := .lst [.val (.int a), .val (.int b), .val (.int c)]
theorem V_dice_eq (c : Int) : ∃ x y z os, V__law_dice [.val (.int c)] = .ok (dM x y z) os := by
  unfold V__law_dice
  by_cases h : -10 < c ∧ c < 10
  · exact ⟨if c < 0 then -c else c, 0, 2, [some (.val (.int c))], by simp [v__law_dice, h.1, h.2, dM]⟩
  · refine ⟨c, 1 + c % 1009, if 1000000000000000000 ≤ c then 1 else 0, [some (.val (.int c))], ?_⟩
    by_cases h1 : -10 < c
    · have h2 : ¬ c < 10 := fun q => h ⟨h1, q⟩
      simp [v__law_dice, h1, h2, dM]
    · simp [v__law_dice, h1, dM]
theorem V_roll_eq (a b c n : Int) (h0 : 0 < n) (h1 : n < 1073741824) : ∃ r a' b' c', 0 ≤ r ∧ r < n ∧ V__law_roll [dM a b c, .val (.int n)] = .ok (.val (.int r)) [some (dM a' b' c'), some (.val (.int n))] := by
  unfold V__law_roll
  have gen : ¬ c = 2 → ¬ (c = 1 ∧ 0 < a) → ∃ r a' b' c', 0 ≤ r ∧ r < n ∧ runV 2 3 v__law_roll [dM a b c, .val (.int n)] = .ok (.val (.int r)) [some (dM a' b' c'), some (.val (.int n))] := by
    intro h2 h3
    have m1 : ∀ x : Int, cMul x 48271 = true := fun x => cMul_right (by decide) (by decide)
    have m2 : ∀ x : Int, cMul x 69621 = true := fun x => cMul_right (by decide) (by decide)
    refine ⟨((a * 48271 + b * 69621 + 11) % 2147483647 / 7 + (a * 48271 + b * 69621 + 11) % 2147483647) % n, (a * 48271 + b * 69621 + 11) % 2147483647, b + 1, 0, Int.emod_nonneg _ (by omega), Int.emod_lt_of_pos _ h0, ?_⟩
    by_cases h4 : c = 1
    · have h5 : ¬ 0 < a := fun q => h3 ⟨h4, q⟩
      subst h4
      simp [v__law_roll, dM, h0, h1, h5, m1, m2]
    · simp [v__law_roll, dM, h0, h1, h2, h4, m1, m2]
  by_cases h2 : c = 2
  · subst h2
    refine ⟨a % n, a / n, b, 2, Int.emod_nonneg _ (by omega), Int.emod_lt_of_pos _ h0, ?_⟩
    simp [v__law_roll, dM, h0, h1]
  · by_cases h3 : c = 1 ∧ 0 < a
    · obtain ⟨rfl, h3⟩ := h3
      refine ⟨a % n, a / n, b, 1, Int.emod_nonneg _ (by omega), Int.emod_lt_of_pos _ h0, ?_⟩
      simp [v__law_roll, dM, h0, h1, h3]
    · exact gen h2 h3
/-- a roll in a text -/
theorem roll_call {o : List (Option M)} {i : Nat} {a b c n : Int} {va : VE} (hi : o[i]? = some (some (dM a b c))) (hv : va ⟨o, []⟩ = .ok (.val (.int n)) ⟨o, []⟩) (h0 : 0 < n) (h1 : n < 1073741824) :
    ∃ r a' b' c', 0 ≤ r ∧ r < n ∧ vCall V__law_roll (wPl (pVar i) (wTm va wNil)) ⟨o, []⟩ = .ok (.val (.int r)) ⟨o.set i (some (dM a' b' c')), []⟩ := by
  obtain ⟨r, a', b', c', h2, h3, h4⟩ := V_roll_eq a b c n h0 h1
  refine ⟨r, a', b', c', h2, h3, ?_⟩
  simp [hi, hv, h4]
theorem cut_ints (ns : List Int) (lo hi : Option Int) : ∃ ms : List Int, cutD (ns.map D.int) lo hi = ms.map D.int ∧ ms.length ≤ ns.length := by
  refine ⟨(ns.drop (HT.sIx ns.length 0 lo)).take (HT.sIx ns.length ns.length hi - HT.sIx ns.length 0 lo), ?_, ?_⟩
  · simp [cutD, List.map_take, List.map_drop]
  · simp; omega
@[simp] theorem sl_scr (ns : List Int) (lo hi : Option Int) : gSl false (.scr ns) lo hi [] = some (.lst (cutD (ns.map D.int) lo hi), []) := rfl
theorem V_rounds_eq (ns : List Int) (most : Int) (hl : ns.length ≤ 63) : ∃ ds os, (∀ m ∈ ds, ∃ a b c, m = dM a b c) ∧ ds.length ≤ 1000 ∧ V__law_rounds [.val (.scr ns), .val (.int most)] = .ok (.lst ds) os := by
  unfold V__law_rounds
  obtain ⟨ms, h1, h2⟩ := cut_ints ns none (some most)
  have key : ∀ (ks : List Int) (o : List (Option M)), ks.length ≤ 63 → ∃ ys : List M, ys.length = ks.length ∧ (∀ y ∈ ys, ∃ a b c, y = dM a b c) ∧ lcP (tName 3) vYes (vCallV V__law_dice (vCons (vVar 3) vNil)) ⟨[some (.val (.scr ns)), some (.val (.int most)), some (.val (.lst (ks.map D.int))), none], []⟩ (ks.map D.int) [] = some ys := by
    intro ks o hk
    obtain ⟨ys, g1, g2, g3⟩ := lcP_ex (i := 3) (f := vCallV V__law_dice (vCons (vVar 3) vNil)) (env := ⟨[some (.val (.scr ns)), some (.val (.int most)), some (.val (.lst (ks.map D.int))), none], []⟩) (fun m => ∃ a b c, m = dM a b c) (ks.map D.int) [] (fun d hd => by
      obtain ⟨c, _, rfl⟩ := List.mem_map.mp hd
      obtain ⟨x, y, z, os, h⟩ := V_dice_eq c
      exact ⟨dM x y z, ⟨[some (.val (.scr ns)), some (.val (.int most)), some (.val (.lst (ks.map D.int))), some (.val (.int c))], []⟩, by simp [h], x, y, z, rfl⟩) (by simp; omega)
    exact ⟨ys, by simpa using g1, g2, by simpa using g3⟩
  by_cases hm : ms = []
  · subst hm
    obtain ⟨ys, g1, g2, g3⟩ := key [0] [] (by simp)
    simp only [List.map_cons, List.map_nil] at g3
    refine ⟨ys, [some (.val (.scr ns)), some (.val (.int most))], g2, by rw [g1]; simp, ?_⟩
    have e0 : gEq (.lst []) (.lst []) [] = some (.bl true, []) := gEq_ints0 []
    simp [v__law_rounds, h1, e0, g3]
  · obtain ⟨ys, g1, g2, g3⟩ := key ms [] (by omega)
    refine ⟨ys, [some (.val (.scr ns)), some (.val (.int most))], g2, by rw [g1]; omega, ?_⟩
    simp [v__law_rounds, h1, hm, g3]
/-- the numbers of a drawn row -/
theorem V_row_eq (a b c : Int) (most wide : Nat) (hm : most ≤ 1000) (hw : wide ≤ 1000) : ∃ (ns : List Int) (a' b' c' : Int), ns.length ≤ most ∧ (∀ x ∈ ns, -(wide : Int) ≤ x ∧ x ≤ wide) ∧
    V__law_row [dM a b c, .val (.int most), .val (.int wide)] = .ok (.val (.lst (ns.map D.int))) [some (dM a' b' c'), some (.val (.int most)), some (.val (.int wide))] := by
  unfold V__law_row
  obtain ⟨r, a1, b1, c1, h1, h2, h3⟩ := V_roll_eq a b c ((most : Int) + 1) (by omega) (by omega)
  have m2 : cMul 2 (wide : Int) = true := cMul_left (by decide) (by decide)
  obtain ⟨ys, e', g1, g2, ⟨a2, b2, c2, rfl⟩, g4⟩ := lcE_ex (i := 3) (f := vOp gMinus (vCall V__law_roll (wPl (pVar 0) (wTm (vOp (gAdd false) (vOp (gMul false) (vC (.int 2)) (vVar 2)) (vC (.int 1))) (wNil)))) (vVar 2))
    (fun e => ∃ a b c, e = ⟨[some (dM a b c), some (.val (.int most)), some (.val (.int wide)), none], []⟩) (fun m => ∃ x : Int, m = .val (.int x) ∧ -(wide : Int) ≤ x ∧ x ≤ wide) (rgD 0 r.toNat) [] ⟨[some (dM a1 b1 c1), some (.val (.int most)), some (.val (.int wide)), none], []⟩ (fun d hd e he => by
      obtain ⟨a, b, c, rfl⟩ := he
      obtain ⟨r, a', b', c', h4, h5, h6⟩ := V_roll_eq a b c (2 * (wide : Int) + 1) (by omega) (by omega)
      refine ⟨.val (.int (r - wide)), ⟨[some (dM a' b' c'), some (.val (.int most)), some (.val (.int wide)), some (.val d)], []⟩, by simp [m2, h6], ⟨r - wide, rfl, by omega, by omega⟩, a', b', c', rfl⟩) ⟨a1, b1, c1, rfl⟩ (by simp [rgD]; omega)
  have hys : ∃ ns : List Int, ys = (ns.map D.int).map M.val ∧ (∀ x ∈ ns, -(wide : Int) ≤ x ∧ x ≤ wide) := by
    clear g1 g4
    induction ys with
    | nil => exact ⟨[], rfl, by simp⟩
    | cons y ys ih =>
      obtain ⟨x, rfl, hx⟩ := g2 y (by simp)
      obtain ⟨ns, rfl, hn⟩ := ih (fun z hz => g2 z (by simp [hz]))
      exact ⟨x :: ns, rfl, fun z hz => by
        rcases List.mem_cons.mp hz with rfl | hz
        · exact hx
        · exact hn z hz⟩
  obtain ⟨ns, rfl, hn⟩ := hys
  have hlen : ns.length = r.toNat := by simpa [rgD] using g1
  refine ⟨ns, a2, b2, c2, by omega, hn, ?_⟩
  have hr : rngOk r = true := rngOk_of (by omega) (by omega)
  rw [List.nil_append, iM_map] at g4
  simp [v__law_row, vLcE, h3, hr, g4]
/-- keys -/
def inKey (n : Int) : Prop := -1000000000 ≤ n ∧ n ≤ 1000000000
theorem V_is_key_eq (n : Int) (h : inKey n) : V_is_key [.val (.int n)] = .ok (.val (.bl true)) [some (.val (.int n))] := by
  unfold V_is_key
  simp [v_is_key, h.1, h.2]
theorem V_check_key_eq (C : Addr) (n : Int) (h : inKey n) : V_check_key C [.val (.int n)] = .ok (.val .non) [some (.val (.int n))] := by
  unfold V_check_key
  simp [v_check_key, V_is_key_eq n h]
/-- a body of a loop that is done for each item and leaves the names as they were but some -/
theorem forI_inv {i : Nat} {b : VS} (R : List D → VF.Env → Prop) : ∀ (ds : List D) (e : VF.Env), R ds e → (∀ d ds e, R (d :: ds) e → ∃ e2, (b (e.put i (some (.val d))) = .nx e2 ∨ b (e.put i (some (.val d))) = .ct e2) ∧ R ds e2) → ∃ e', forI (tName i) b ds e = .nx e' ∧ R [] e'
  | [], e, h, hb => ⟨e, rfl, h⟩
  | d :: ds, e, h, hb => by
    obtain ⟨e2, h1, h2⟩ := hb d ds e h
    obtain ⟨e', h3, h4⟩ := forI_inv R ds e2 h2 hb
    refine ⟨e', ?_, h4⟩
    rw [forI_name]
    rcases h1 with h1 | h1 <;> rw [h1] <;> simpa using h3
theorem V_check_row_eq (C : Addr) (ns : List Int) (h : ∀ x ∈ ns, inKey x) (d : D) (hd : d = .lst (ns.map D.int) ∨ d = .tup (ns.map D.int)) : ∃ os, V_check_row C [.val d] = .ok (.val .non) os := by
  unfold V_check_row
  have key : ∃ e', forI (tName 1) (v_check_row_b1 (V_check_key C)) (ns.map D.int) ⟨[some (.val d), none], []⟩ = .nx e' := by
    obtain ⟨e', h1, _⟩ := forI_inv (i := 1) (b := v_check_row_b1 (V_check_key C)) (fun ds e => (∃ ms : List Int, ds = ms.map D.int ∧ ∀ x ∈ ms, inKey x) ∧ ∃ o, e = ⟨[some (.val d), o], []⟩) (ns.map D.int) ⟨[some (.val d), none], []⟩ ⟨⟨ns, rfl, h⟩, none, rfl⟩ (fun dd ds e he => by
      obtain ⟨⟨ms, h1, h2⟩, o, rfl⟩ := he
      cases ms with
      | nil => cases h1
      | cons m ms =>
        simp only [List.map_cons, List.cons.injEq] at h1
        obtain ⟨rfl, rfl⟩ := h1
        exact ⟨⟨[some (.val d), some (.val (.int m))], []⟩, .inl (by simp [v_check_row_b1, V_check_key_eq C m (h2 m (by simp))]), ⟨ms, rfl, fun x hx => h2 x (by simp [hx])⟩, _, rfl⟩)
    exact ⟨e', h1⟩
  obtain ⟨e', h1⟩ := key
  refine ⟨e'.o.take 1, ?_⟩
  rcases hd with rfl | rfl <;> simp [v_check_row, h1]
theorem V_check_range_eq (C : Addr) (lo hi many : Int) : V_check_range C [.val (.int lo), .val (.int hi), .val (.int many)] = if 0 ≤ lo ∧ lo ≤ hi ∧ hi ≤ many then .ok (.val .non) [some (.val (.int lo)), some (.val (.int hi)), some (.val (.int many))] else .ex C [some (.val (.int lo)), some (.val (.int hi)), some (.val (.int many))] := by
  unfold V_check_range
  by_cases h1 : 0 ≤ lo
  · by_cases h2 : lo ≤ hi
    · by_cases h3 : hi ≤ many
      · simp [v_check_range, h1, h2, h3]
      · simp [v_check_range, h1, h2, h3]
    · simp [v_check_range, h1, h2]
  · simp [v_check_range, h1]
/-- the rounds of a law: each one goes through -/
theorem rounds_all {i k : Nat} {b : VS} (hb : ∀ (o : List (Option M)) (x y z : Int), o.length = k → o[i]? = some (some (dM x y z)) → ∃ o', o'.length = k ∧ b ⟨o, []⟩ = .nx ⟨o', []⟩) (hi : i < k) : ∀ (ms : List M) (o : List (Option M)), (∀ m ∈ ms, ∃ a b c, m = dM a b c) → o.length = k → ∃ o', o'.length = k ∧ forO (tName i) b ms ⟨o, []⟩ = .nx ⟨o', []⟩
  | [], o, hm, ho => ⟨o, ho, rfl⟩
  | m :: ms, o, hm, ho => by
    obtain ⟨x, y, z, rfl⟩ := hm m (by simp)
    obtain ⟨o1, h1, h2⟩ := hb (o.set i (some (dM x y z))) x y z (by simp [ho]) (by rw [List.getElem?_set_self (by omega)])
    obtain ⟨o', h3, h4⟩ := rounds_all hb hi ms o1 (fun m hm' => hm m (by simp [hm'])) h1
    refine ⟨o', h3, ?_⟩
    rw [forO_name]
    simp [h2, h4]
end Law

namespace Law
open PySem L2 PF VF
variable [Tab]
/-! ### rounds, slot by slot -/
theorem seq_step {P : List (Option M) → Prop} {s1 s2 : VS} {o : List (Option M)} (o1 : List (Option M)) (h : s1 ⟨o, []⟩ = .nx ⟨o1, []⟩) (h2 : ∃ o', P o' ∧ s2 ⟨o1, []⟩ = .nx ⟨o', []⟩) : ∃ o', P o' ∧ vSeq s1 s2 ⟨o, []⟩ = .nx ⟨o', []⟩ := by
  obtain ⟨o', h3, h4⟩ := h2
  exact ⟨o', h3, by rw [vSeq_eq, h, seqV_nx, h4]⟩
theorem seq_stepE {P : List (Option M) → Prop} {s1 s2 : VS} {o : List (Option M)} {Q : List (Option M) → Prop} (h : ∃ o1, Q o1 ∧ s1 ⟨o, []⟩ = .nx ⟨o1, []⟩) (h2 : ∀ o1, Q o1 → ∃ o', P o' ∧ s2 ⟨o1, []⟩ = .nx ⟨o', []⟩) : ∃ o', P o' ∧ vSeq s1 s2 ⟨o, []⟩ = .nx ⟨o', []⟩ := by
  obtain ⟨o1, h1, h3⟩ := h
  exact seq_step o1 h3 (h2 o1 h1)
/-- o' is o but for the slots js, and its slot p holds dice -/
structure Sm (p : Nat) (js : List Nat) (o o' : List (Option M)) : Prop where
  len : o'.length = o.length
  eq : ∀ j, j ∉ js → o'[j]? = o[j]?
  di : ∃ a b c, o'[p]? = some (some (dM a b c))
theorem Sm.get {p : Nat} {js : List Nat} {o o' : List (Option M)} (h : Sm p js o o') {j : Nat} {x : Option (Option M)} (hx : o[j]? = x) (hj : j ∉ js) : o'[j]? = x := by rw [h.eq j hj, hx]
theorem Sm.set {p : Nat} {js : List Nat} {o o' : List (Option M)} (h : Sm p js o o') {i : Nat} {x : Option M} (hi : i ∈ js) (hp : i ≠ p) : Sm p js o (o'.set i x) :=
  ⟨by simp [h.len], fun j hj => by
    have q : i ≠ j := fun q => hj (q ▸ hi)
    rw [List.getElem?_set_ne q]; exact h.eq j hj, by rw [List.getElem?_set_ne hp]; exact h.di⟩
theorem Sm.die {p : Nat} {js : List Nat} {o o' : List (Option M)} (h : Sm p js o o') {a b c : Int} (hi : p ∈ js) : Sm p js o (o'.set p (some (dM a b c))) := by
  have hp : p < o'.length := by
    obtain ⟨_, _, _, h1⟩ := h.di
    exact (List.getElem?_eq_some_iff.mp h1).1
  exact ⟨by simp [h.len], fun j hj => by
    have q : p ≠ j := fun q => hj (q ▸ hi)
    rw [List.getElem?_set_ne q]; exact h.eq j hj, ⟨a, b, c, List.getElem?_set_self hp⟩⟩
theorem Sm.refl {p : Nat} {js : List Nat} {o : List (Option M)} (h : ∃ a b c, o[p]? = some (some (dM a b c))) : Sm p js o o := ⟨rfl, fun _ _ => rfl, h⟩
theorem Sm.trans {p : Nat} {js : List Nat} {o o1 o2 : List (Option M)} (h : Sm p js o o1) (k : Sm p js o1 o2) : Sm p js o o2 := ⟨by rw [k.len, h.len], fun j hj => by rw [k.eq j hj, h.eq j hj], k.di⟩
/-- a roll -/
theorem Sm.roll {p : Nat} {js : List Nat} {o o' : List (Option M)} (h : Sm p js o o') (hi : p ∈ js) {n : Int} {va : VE} (hv : va ⟨o', []⟩ = .ok (.val (.int n)) ⟨o', []⟩) (h0 : 0 < n) (h1 : n < 1073741824) :
    ∃ r o2, 0 ≤ r ∧ r < n ∧ Sm p js o o2 ∧ vCall V__law_roll (wPl (pVar p) (wTm va wNil)) ⟨o', []⟩ = .ok (.val (.int r)) ⟨o2, []⟩ := by
  obtain ⟨a, b, c, hd⟩ := h.di
  obtain ⟨r, a', b', c', h2, h3, h4⟩ := roll_call hd hv h0 h1
  exact ⟨r, _, h2, h3, h.die hi, h4⟩
/-- a drawn row, as a call -/
theorem Sm.row {p : Nat} {js : List Nat} {o o' : List (Option M)} (h : Sm p js o o') (hi : p ∈ js) {most wide : Nat} {va vb : VE} (hv : va ⟨o', []⟩ = .ok (.val (.int most)) ⟨o', []⟩) (hw : vb ⟨o', []⟩ = .ok (.val (.int wide)) ⟨o', []⟩) (h0 : most ≤ 1000) (h1 : wide ≤ 1000) :
    ∃ (ns : List Int) (o2 : List (Option M)), ns.length ≤ most ∧ (∀ x ∈ ns, -(wide : Int) ≤ x ∧ x ≤ wide) ∧ Sm p js o o2 ∧ vCall V__law_row (wPl (pVar p) (wTm va (wTm vb wNil))) ⟨o', []⟩ = .ok (.val (.lst (ns.map D.int))) ⟨o2, []⟩ := by
  obtain ⟨a, b, c, hd⟩ := h.di
  obtain ⟨ns, a', b', c', h2, h3, h4⟩ := V_row_eq a b c most wide h0 h1
  exact ⟨ns, _, h2, h3, h.die hi (a := a') (b := b') (c := c'), by simp [hd, hv, hw, h4]⟩
/-- turns of a comprehension that roll -/
theorem Sm.turns {p : Nat} {js : List Nat} {o : List (Option M)} {i : Nat} {f : VE} (P : M → Prop) (hi : i ∈ js) (hp : i ≠ p) (hf : ∀ d o1, Sm p js o o1 → ∃ y o2, f ⟨o1.set i (some (.val d)), []⟩ = .ok y ⟨o2, []⟩ ∧ P y ∧ Sm p js o o2) (ds : List D) (hl : ds.length < 1000000) {o' : List (Option M)} (h : Sm p js o o') :
    ∃ ys o2, ys.length = ds.length ∧ (∀ y ∈ ys, P y) ∧ Sm p js o o2 ∧ lcE (tName i) vYes f [i] ds [] ⟨o', []⟩ = .ok ys ⟨o2, []⟩ := by
  obtain ⟨ys, e', h1, h2, ⟨o2, rfl, h3⟩, h4⟩ := lcE_ex (i := i) (f := f) (fun e => ∃ o1, e = ⟨o1, []⟩ ∧ Sm p js o o1) P ds [] ⟨o', []⟩ (fun d hd e he => by
    obtain ⟨o1, rfl, he⟩ := he
    obtain ⟨y, o2, h1, h2, h3⟩ := hf d o1 he
    exact ⟨y, ⟨o2, []⟩, h1, h2, o2.set i none, rfl, h3.set hi hp⟩) ⟨o', rfl, h⟩ (by simpa using hl)
  exact ⟨ys, o2, h1, h2, h3, by simpa using h4⟩
theorem frz_ints {ys : List M} {Q : Int → Prop} (h : ∀ y ∈ ys, ∃ x : Int, y = .val (.int x) ∧ Q x) : ∃ ns : List Int, ys = iM ns ∧ ns.length = ys.length ∧ ∀ x ∈ ns, Q x := by
  induction ys with
  | nil => exact ⟨[], rfl, rfl, by simp⟩
  | cons y ys ih =>
    obtain ⟨x, rfl, hx⟩ := h y (by simp)
    obtain ⟨ns, rfl, hn, hq⟩ := ih (fun z hz => h z (by simp [hz]))
    exact ⟨x :: ns, rfl, by simp, fun z hz => by
      rcases List.mem_cons.mp hz with rfl | hz
      · exact hx
      · exact hq z hz⟩
/-- [f for i in range(n)], f a number -/
theorem Sm.draw {p : Nat} {js : List Nat} {o o' : List (Option M)} {i : Nat} {f va : VE} {n : Nat} (Q : Int → Prop) (h : Sm p js o o') (hi : i ∈ js) (hp : i ≠ p) (hv : va ⟨o', []⟩ = .ok (.val (.int n)) ⟨o', []⟩) (hn : n ≤ 1000)
    (hf : ∀ d o1, Sm p js o o1 → ∃ x o2, f ⟨o1.set i (some (.val d)), []⟩ = .ok (.val (.int x)) ⟨o2, []⟩ ∧ Q x ∧ Sm p js o o2) :
    ∃ (ns : List Int) (o2 : List (Option M)), ns.length = n ∧ (∀ x ∈ ns, Q x) ∧ Sm p js o o2 ∧ vLcE [i] (viRng (vCons va vNil)) (tName i) vYes f frzM ⟨o', []⟩ = .ok (.val (.lst (ns.map D.int))) ⟨o2, []⟩ := by
  obtain ⟨ys, o2, h1, h2, h3, h4⟩ := Sm.turns (f := f) (fun y => ∃ x : Int, y = .val (.int x) ∧ Q x) hi hp (fun d o1 h1 => by
    obtain ⟨x, o2, h2, h3, h4⟩ := hf d o1 h1
    exact ⟨_, o2, h2, ⟨x, rfl, h3⟩, h4⟩) (rgD 0 n) (by simp [rgD]; omega) (h.set (x := none) hi hp)
  obtain ⟨ns, rfl, h5, h6⟩ := frz_ints h2
  have hr : rngOk (n : Int) = true := rngOk_of (by omega) (by omega)
  exact ⟨ns, o2.set i none, by simpa [rgD] using h1, h6, h3.set hi hp, by simp [vLcE, hv, hr, h4]⟩
theorem frz_rows {ys : List M} {Q : List Int → Prop} (h : ∀ y ∈ ys, ∃ x : List Int, y = .val (.lst (x.map D.int)) ∧ Q x) : ∃ ns : List (List Int), ys = (lstD ns).map M.val ∧ ns.length = ys.length ∧ ∀ x ∈ ns, Q x := by
  induction ys with
  | nil => exact ⟨[], rfl, rfl, by simp⟩
  | cons y ys ih =>
    obtain ⟨x, rfl, hx⟩ := h y (by simp)
    obtain ⟨ns, rfl, hn, hq⟩ := ih (fun z hz => h z (by simp [hz]))
    exact ⟨x :: ns, rfl, by simp, fun z hz => by
      rcases List.mem_cons.mp hz with rfl | hz
      · exact hx
      · exact hq z hz⟩
/-- [f for i in range(n)], f a row of numbers -/
theorem Sm.drawR {p : Nat} {js : List Nat} {o o' : List (Option M)} {i : Nat} {f va : VE} {n : Nat} (Q : List Int → Prop) (h : Sm p js o o') (hi : i ∈ js) (hp : i ≠ p) (hv : va ⟨o', []⟩ = .ok (.val (.int n)) ⟨o', []⟩) (hn : n ≤ 1000)
    (hf : ∀ d o1, Sm p js o o1 → ∃ x o2, f ⟨o1.set i (some (.val d)), []⟩ = .ok (.val (.lst (x.map D.int))) ⟨o2, []⟩ ∧ Q x ∧ Sm p js o o2) :
    ∃ (ns : List (List Int)) (o2 : List (Option M)), ns.length = n ∧ (∀ x ∈ ns, Q x) ∧ Sm p js o o2 ∧ vLcE [i] (viRng (vCons va vNil)) (tName i) vYes f frzM ⟨o', []⟩ = .ok (.val (.lst (lstD ns))) ⟨o2, []⟩ := by
  obtain ⟨ys, o2, h1, h2, h3, h4⟩ := Sm.turns (f := f) (fun y => ∃ x : List Int, y = .val (.lst (x.map D.int)) ∧ Q x) hi hp (fun d o1 h1 => by
    obtain ⟨x, o2, h2, h3, h4⟩ := hf d o1 h1
    exact ⟨_, o2, h2, ⟨x, rfl, h3⟩, h4⟩) (rgD 0 n) (by simp [rgD]; omega) (h.set (x := none) hi hp)
  obtain ⟨ns, rfl, h5, h6⟩ := frz_rows h2
  have hr : rngOk (n : Int) = true := rngOk_of (by omega) (by omega)
  exact ⟨ns, o2.set i none, by simpa [rgD] using h1, h6, h3.set hi hp, by simp [vLcE, hv, hr, h4]⟩
end Law
namespace Law
open PySem L2 PF VF
variable [Tab]
theorem kset {o : List (Option M)} {i j : Nat} {x : Option (Option M)} {y : Option M} (h : o[j]? = x) (hij : i ≠ j) : (o.set i y)[j]? = x := by rw [List.getElem?_set_ne hij]; exact h
theorem kself {o : List (Option M)} {i n : Nat} {y : Option M} (h : o.length = n) (hi : i < n) : (o.set i y)[i]? = some y := List.getElem?_set_self (by omega)
theorem klen {o : List (Option M)} {i n : Nat} {y : Option M} (h : o.length = n) : (o.set i y).length = n := by simp [h]
theorem dset {o : List (Option M)} {i p : Nat} {y : Option M} (h : ∃ a b c, o[p]? = some (some (dM a b c))) (hij : i ≠ p) : ∃ a b c, (o.set i y)[p]? = some (some (dM a b c)) := by rw [List.getElem?_set_ne hij]; exact h
end Law
namespace Law
open PySem L2 PF VF
variable [Tab]
theorem ite_t {P : List (Option M) → Prop} {c : VT} {s1 s2 : VS} {o : List (Option M)} (h : c ⟨o, []⟩ = .ok true ⟨o, []⟩) (h2 : ∃ o', P o' ∧ s1 ⟨o, []⟩ = .nx ⟨o', []⟩) : ∃ o', P o' ∧ vIte c s1 s2 ⟨o, []⟩ = .nx ⟨o', []⟩ := by
  obtain ⟨o', h3, h4⟩ := h2
  exact ⟨o', h3, by rw [vIte_eq, h, tv_ok, if_pos rfl, h4]⟩
theorem ite_f {P : List (Option M) → Prop} {c : VT} {s1 s2 : VS} {o : List (Option M)} (h : c ⟨o, []⟩ = .ok false ⟨o, []⟩) (h2 : ∃ o', P o' ∧ s2 ⟨o, []⟩ = .nx ⟨o', []⟩) : ∃ o', P o' ∧ vIte c s1 s2 ⟨o, []⟩ = .nx ⟨o', []⟩ := by
  obtain ⟨o', h3, h4⟩ := h2
  exact ⟨o', h3, by rw [vIte_eq, h, tv_ok, if_neg (by decide), h4]⟩
end Law

namespace Law
open PySem L2 PF VF
variable [Tab]
def f_net_b4 : FS :=
  fSeq (fAsg (fOp (gAdd false) (fVar 4) (fVar 5)) (gtName 6))
    (fIte (fAndT (fTst (fOp gLt (fOp (gAdd false) (fVar 6) (fVar 3)) (fVar 0))) (fTst (fOp gEq (fOp gFdiv (fVar 6) (fOp (gMul false) (fC (.int 2)) (fVar 2))) (fOp gFdiv (fOp (gAdd false) (fVar 6) (fVar 3)) (fOp (gMul false) (fC (.int 2)) (fVar 2)))))) (fExpr (fBM "list" gAppend (fVar 1) (fCons (fTup (fCons (fVar 6) (fCons (fOp (gAdd false) (fVar 6) (fVar 3)) (fNil)))) (fNil)))) (fNext))
def f_net_b3 : FS :=
  fFor 100000 (fiRng1 (fCons (fVar 3) (fNil))) (gtName 5) (f_net_b4)
def f_net_c2 : FT :=
  fTst (fOp gGe (fVar 3) (fC (.int 1)))
def f_net_b2 : FS :=
  fSeq (fFor 100000 (fiRng3 (fCons (fOp gMod (fVar 3) (fVar 2)) (fCons (fOp gMinus (fVar 0) (fVar 3)) (fCons (fOp (gMul false) (fC (.int 2)) (fVar 3)) (fNil))))) (gtName 4) (f_net_b3))
    (fAug 3 (fC (.int 2)) gFdiv)
def f_net_c1 : FT :=
  fTst (fOp gLt (fVar 2) (fVar 0))
def f_net_b1 : FS :=
  fSeq (fAsg (fVar 2) (gtName 3))
    (fSeq (fWhile (f_net_c2) (f_net_b2) 100000)
    (fAug 2 (fC (.int 2)) (gIc cMul fun i j => i * j)))
def f_net : FS :=
  fSeq (fPar 1 2 (fCons (fLst true (fNil)) (fCons (fC (.int 1)) (fNil))))
    (fSeq (fWhile (f_net_c1) (f_net_b1) 100000)
    (fRet (fCB gTuple (fCons (fVar 1) (fNil)))))
def v_net_b4 : VS :=
  vSeq (vAsg (vOp (gAdd false) (vVar 4) (vVar 5)) (tName 6))
    (vIte (vAndT (vTst (vOp gLt (vOp (gAdd false) (vVar 6) (vVar 3)) (vVar 0))) (vTst (vOp gEq (vOp gFdiv (vVar 6) (vOp (gMul false) (vC (.int 2)) (vVar 2))) (vOp gFdiv (vOp (gAdd false) (vVar 6) (vVar 3)) (vOp (gMul false) (vC (.int 2)) (vVar 2)))))) (vExpr (vMut "list" V_append (pVar 1) (vCons (vTup (vCons (vVar 6) (vCons (vOp (gAdd false) (vVar 6) (vVar 3)) (vNil)))) (vNil)))) (vNext))
def v_net_b3 : VS :=
  vFor (viRng (vCons (vVar 3) (vNil))) (tName 5) (v_net_b4)
def v_net_c2 : VT :=
  vTst (vOp gGe (vVar 3) (vC (.int 1)))
def v_net_b2 : VS :=
  vSeq (vFor (viRng3 (vCons (vOp gMod (vVar 3) (vVar 2)) (vCons (vOp gMinus (vVar 0) (vVar 3)) (vCons (vOp (gMul false) (vC (.int 2)) (vVar 3)) (vNil))))) (tName 4) (v_net_b3))
    (vAug 3 (vC (.int 2)) gFdiv)
def v_net_c1 : VT :=
  vTst (vOp gLt (vVar 2) (vVar 0))
def v_net_b1 : VS :=
  vSeq (vAsg (vVar 2) (tName 3))
    (vSeq (vWhile (v_net_c2) (v_net_b2) 100000)
    (vAug 2 (vC (.int 2)) (gIc cMul fun i j => i * j)))
def v_net : VS :=
  vSeq (vPar 1 2 (vCons (vLstN (vNil)) (vCons (vC (.int 1)) (vNil))))
    (vSeq (vWhile (v_net_c1) (v_net_b1) 100000)
    (vRet (vCB gTuple (vCons (vLk 1) (vNil)))))
set_option maxHeartbeats 4000000 in
theorem s_net : SimS false [] (f_net) (v_net) :=
  ss_seq (ss_par (by decide) (by decide) (sa_cons (se_lstN (sa_nil)) (sa_cons (se_c) (sa_nil))))
    (ss_seq (ss_while 100000 (st_tst (se_op opv_lt (se_var 2) (se_var 0))) (ss_seq (ss_asg (se_var 2) (sg_name (by decide)))
    (ss_seq (ss_while 100000 (st_tst (se_op opv_ge (se_var 3) (se_c))) (ss_seq (ss_for (sf_rng3 (sav_cons (se_op opv_mod (se_var 3) (se_var 2)) (sav_cons (se_op opv_sub (se_var 0) (se_var 3)) (sav_cons (se_op opv_mul (se_c) (se_var 3)) (sav_nil)))) (len_cons (len_cons (len_cons len_nil)))) (sg_name (by decide)) (ss_for (sf_rng1 (sav_cons (se_var 3) (sav_nil)) (len_cons len_nil)) (sg_name (by decide)) (ss_seq (ss_asg (se_op opv_add (se_var 4) (se_var 5)) (sg_name (by decide)))
    (ss_ite (st_and (st_tst (se_op opv_lt (se_op opv_add (se_var 6) (se_var 3)) (se_var 0))) (st_tst (se_op opv_eq (se_op opv_fdiv (se_var 6) (se_op opv_mul (se_c) (se_var 2))) (se_op opv_fdiv (se_op opv_add (se_var 6) (se_var 3)) (se_op opv_mul (se_c) (se_var 2)))))) (ss_expr (se_mut n_append (sp_var 1) (sa_cons (se_tup (sa_cons (se_var 6) (sa_cons (se_op opv_add (se_var 6) (se_var 3)) (sa_nil)))) (sa_nil)))) (ss_next)))))
    (ss_aug (by decide) opv_fdiv (se_c))))
    (ss_aug (by decide) (opv_Ic _ _) (se_c)))))
    (ss_ret (se_cb cv_tuple (sav_cons (se_lk 1) (sav_nil)))))
def F_net : FN := runF ["many", "found", "size", "gap", "first", "k", "low"] (f_net)
def V_net : VN := runV 1 7 (v_net)
theorem n_net : NSim false [] (F_net) (V_net) := nsim_fn (s_net)
theorem e_net : ∀ ms, ms.length ≠ 1 → V_net ms = .no := run_len
def f_by_net_b1 (C_BadSteps : Addr) : FS :=
  fSeq (fIte (fNotT (fTst (fChain3 gLe gLt gLt (fC (.int 0)) (fVar 3) (fVar 4) (fCB gLen (fCons (fVar 2) (fNil)))))) (fRaise C_BadSteps) (fNext))
    (fIte (fTst (fOp gGtA (fOp gIx (fVar 2) (fVar 3)) (fOp gIx (fVar 2) (fVar 4)))) (fAsg (fTup (fCons (fOp gIx (fVar 2) (fVar 4)) (fCons (fOp gIx (fVar 2) (fVar 3)) (fNil)))) (gtTup 2 (gtCons (gtSub (fVar 2) (fVar 3)) (gtCons (gtSub (fVar 2) (fVar 4)) (gtNil))))) (fNext))
def f_by_net (C_BadSteps : Addr) : FS :=
  fSeq (fAsg (fCB (gList true) (fCons (fVar 0) (fNil))) (gtName 2))
    (fSeq (fFor 100000 (fiSeq (fVar 1)) (gtTup 2 (gtCons (gtName 3) (gtCons (gtName 4) (gtNil)))) (f_by_net_b1 C_BadSteps))
    (fRet (fCB gTuple (fCons (fVar 2) (fNil)))))
def v_by_net_b1 (C_BadSteps : Addr) : VS :=
  vSeq (vIte (vNotT (vTst (vChain3 gLe gLt gLt (vC (.int 0)) (vVar 3) (vVar 4) (vCB gLen (vCons (vLk 2) (vNil)))))) (vRaise C_BadSteps) (vNext))
    (vIte (vTst (vOp gGtA (vOp gIx (vLk 2) (vVar 3)) (vOp gIx (vLk 2) (vVar 4)))) (vAsg (vTup (vCons (vOp gIx (vLk 2) (vVar 4)) (vCons (vOp gIx (vLk 2) (vVar 3)) (vNil)))) (tTup 2 (tCons (tSub (pVar 2) (vVar 3)) (tCons (tSub (pVar 2) (vVar 4)) (tNil))))) (vNext))
def v_by_net (C_BadSteps : Addr) : VS :=
  vSeq (vAsg (vOwn (vCB (gList false) (vCons (vVar 0) (vNil)))) (tName 2))
    (vSeq (vFor (viSeq (vVar 1)) (tTup 2 (tCons (tName 3) (tCons (tName 4) (tNil)))) (v_by_net_b1 C_BadSteps))
    (vRet (vCB gTuple (vCons (vLk 2) (vNil)))))
set_option maxHeartbeats 4000000 in
theorem s_by_net {C_BadSteps : Addr} : SimS false [] (f_by_net C_BadSteps) (v_by_net C_BadSteps) :=
  ss_seq (ss_asg (se_cbN cv_list own_list (sav_cons (se_var 0) (sav_nil))) (sg_name (by decide)))
    (ss_seq (ss_for (sf_seq (se_var 1)) (sg_tup (sgs_cons (sg_name (by decide)) (sgs_cons (sg_name (by decide)) (sgs_nil)))) (ss_seq (ss_ite (st_not (st_tst (se_chain3 opv_le opv_lt opv_lt (se_c) (se_var 3) (se_var 4) (se_cb cv_len (sav_cons (se_lk 2) (sav_nil)))))) (ss_raise) (ss_next))
    (ss_ite (st_tst (se_op opv_gtA (se_op opv_ix (se_lk 2) (se_var 3)) (se_op opv_ix (se_lk 2) (se_var 4)))) (ss_asg (se_tup (sa_cons (se_op opv_ix (se_lk 2) (se_var 4)) (sa_cons (se_op opv_ix (se_lk 2) (se_var 3)) (sa_nil)))) (sg_tup (sgs_cons (sg_sub (sp_var 2) (se_var 3)) (sgs_cons (sg_sub (sp_var 2) (se_var 4)) (sgs_nil))))) (ss_next))))
    (ss_ret (se_cb cv_tuple (sav_cons (se_lk 2) (sav_nil)))))
def F_by_net (C_BadSteps : Addr) : FN := runF ["row", "steps", "found", "low", "high"] (f_by_net C_BadSteps)
def V_by_net (C_BadSteps : Addr) : VN := runV 2 5 (v_by_net C_BadSteps)
theorem n_by_net (C_BadSteps : Addr) : NSim false [] (F_by_net C_BadSteps) (V_by_net C_BadSteps) := nsim_fn (s_by_net)
theorem e_by_net (C_BadSteps : Addr) : ∀ ms, ms.length ≠ 2 → V_by_net C_BadSteps ms = .no := run_len
def v_by_net_o_b1 (C_BadSteps : Addr) : VS :=
  vSeq (vIte (vNotT (vTst (vChain3 gLe gLt gLt (vC (.int 0)) (vVar 3) (vVar 4) (vCB gLen (vCons (vLk 2) (vNil)))))) (vRaise C_BadSteps) (vNext))
    (vIte (vTst (vOp gGtA (vOp gIx (vLk 2) (vVar 3)) (vOp gIx (vLk 2) (vVar 4)))) (vAsg (vTup (vCons (vOp gIx (vLk 2) (vVar 4)) (vCons (vOp gIx (vLk 2) (vVar 3)) (vNil)))) (tTup 2 (tCons (tSub (pVar 2) (vVar 3)) (tCons (tSub (pVar 2) (vVar 4)) (tNil))))) (vNext))
def v_by_net_o (C_BadSteps : Addr) : VS :=
  vSeq (vAsg (vOwn (vCB (gList false) (vCons (vLk 0) (vNil)))) (tName 2))
    (vSeq (vFor (viSeq (vVar 1)) (tTup 2 (tCons (tName 3) (tCons (tName 4) (tNil)))) (v_by_net_o_b1 C_BadSteps))
    (vRet (vCB gTuple (vCons (vLk 2) (vNil)))))
set_option maxHeartbeats 4000000 in
theorem s_by_net_o {C_BadSteps : Addr} : SimS false [0] (f_by_net C_BadSteps) (v_by_net_o C_BadSteps) :=
  ss_seq (ss_asg (se_cbN cv_list own_list (sav_cons (se_lk 0) (sav_nil))) (sg_name (by decide)))
    (ss_seq (ss_for (sf_seq (se_var 1)) (sg_tup (sgs_cons (sg_name (by decide)) (sgs_cons (sg_name (by decide)) (sgs_nil)))) (ss_seq (ss_ite (st_not (st_tst (se_chain3 opv_le opv_lt opv_lt (se_c) (se_var 3) (se_var 4) (se_cb cv_len (sav_cons (se_lk 2) (sav_nil)))))) (ss_raise) (ss_next))
    (ss_ite (st_tst (se_op opv_gtA (se_op opv_ix (se_lk 2) (se_var 3)) (se_op opv_ix (se_lk 2) (se_var 4)))) (ss_asg (se_tup (sa_cons (se_op opv_ix (se_lk 2) (se_var 4)) (sa_cons (se_op opv_ix (se_lk 2) (se_var 3)) (sa_nil)))) (sg_tup (sgs_cons (sg_sub (sp_var 2) (se_var 3)) (sgs_cons (sg_sub (sp_var 2) (se_var 4)) (sgs_nil))))) (ss_next))))
    (ss_ret (se_cb cv_tuple (sav_cons (se_lk 2) (sav_nil)))))
def V_by_net_o (C_BadSteps : Addr) : VN := runV 2 5 (v_by_net_o C_BadSteps)
theorem n_by_net_o (C_BadSteps : Addr) : NSim false [0] (F_by_net C_BadSteps) (V_by_net_o C_BadSteps) := nsim_fn (s_by_net_o)
theorem e_by_net_o (C_BadSteps : Addr) : ∀ ms, ms.length ≠ 2 → V_by_net_o C_BadSteps ms = .no := run_len
def f_power_b1 : FS :=
  fAug 1 (fC (.int 2)) (gIc cMul fun i j => i * j)
def f_power : FS :=
  fSeq (fAsg (fC (.int 1)) (gtName 1))
    (fSeq (fFor 100000 (fiRng1 (fCons (fVar 0) (fNil))) (gtName 2) (f_power_b1))
    (fRet (fVar 1)))
def v_power_b1 : VS :=
  vAug 1 (vC (.int 2)) (gIc cMul fun i j => i * j)
def v_power : VS :=
  vSeq (vAsg (vC (.int 1)) (tName 1))
    (vSeq (vFor (viRng (vCons (vVar 0) (vNil))) (tName 2) (v_power_b1))
    (vRet (vVar 1)))
set_option maxHeartbeats 4000000 in
theorem s_power : SimS true [] (f_power) (v_power) :=
  ss_seq (ss_asg (se_c) (sg_name (by decide)))
    (ss_seq (ss_for (sf_rng1 (sav_cons (se_var 0) (sav_nil)) (len_cons len_nil)) (sg_name (by decide)) (ss_aug (by decide) (opv_Ic _ _) (se_c)))
    (ss_ret (se_var 1)))
def F_power : FN := runF ["many", "found", "k"] (f_power)
def V_power : VN := runV 1 3 (v_power)
theorem n_power : NSim true [] (F_power) (V_power) := nsim_fn (s_power)
theorem e_power : ∀ ms, ms.length ≠ 1 → V_power ms = .no := run_len
def f_look_net_b2 (C_BadSteps : Addr) (F_power F_by_net : FN) : FS :=
  fSeq (fExpr (fBM "list" gAppend (fVar 3) (fCons (fOp gMod (fVar 4) (fC (.int 2))) (fNil))))
    (fAug 4 (fC (.int 2)) gFdiv)
def f_look_net_b1 (C_BadSteps : Addr) (F_power F_by_net : FN) : FS :=
  fSeq (fPar 3 4 (fCons (fLst true (fNil)) (fCons (fVar 2) (fNil))))
    (fSeq (fFor 100000 (fiRng1 (fCons (fVar 1) (fNil))) (gtName 5) (f_look_net_b2 C_BadSteps F_power F_by_net))
    (fIte (fTst (fOp gNe (fCall (FN.len F_by_net 2) (fCons (fVar 3) (fCons (fVar 0) (fNil)))) (fCB gTuple (fCons (fCB (gSortA false) (fCons (fVar 3) (fNil))) (fNil))))) (fRaiseE C_BadSteps (fCons (fOp (gAdd false) (fC (.str "row ")) (fCB gStr (fCons (fVar 2) (fNil)))) (fNil))) (fNext)))
def f_look_net (C_BadSteps : Addr) (F_power F_by_net : FN) : FS :=
  fFor 100000 (fiRng1 (fCons (fCall (FN.len F_power 1) (fCons (fVar 1) (fNil))) (fNil))) (gtName 2) (f_look_net_b1 C_BadSteps F_power F_by_net)
def v_look_net_b2 (C_BadSteps : Addr) (V_power V_by_net_o : VN) : VS :=
  vSeq (vExpr (vMut "list" V_append (pVar 3) (vCons (vOp gMod (vVar 4) (vC (.int 2))) (vNil))))
    (vAug 4 (vC (.int 2)) gFdiv)
def v_look_net_b1 (C_BadSteps : Addr) (V_power V_by_net_o : VN) : VS :=
  vSeq (vPar 3 4 (vCons (vLstN (vNil)) (vCons (vVar 2) (vNil))))
    (vSeq (vFor (viRng (vCons (vVar 1) (vNil))) (tName 5) (v_look_net_b2 C_BadSteps V_power V_by_net_o))
    (vIte (vTst (vOp gNe (vCall V_by_net_o (wPl (pVar 3) (wTm (vVar 0) (wNil)))) (vCB gTuple (vCons (vCB (gSortA false) (vCons (vLk 3) (vNil))) (vNil))))) (vRaiseE C_BadSteps (vCons (vOp (gAdd false) (vC (.str "row ")) (vCB gStr (vCons (vVar 2) (vNil)))) (vNil))) (vNext)))
def v_look_net (C_BadSteps : Addr) (V_power V_by_net_o : VN) : VS :=
  vFor (viRng (vCons (vCallV V_power (vCons (vVar 1) (vNil))) (vNil))) (tName 2) (v_look_net_b1 C_BadSteps V_power V_by_net_o)
set_option maxHeartbeats 4000000 in
theorem s_look_net {C_BadSteps : Addr} {F_power F_by_net : FN} {V_power V_by_net_o : VN}
    (n_power : NSim true [] F_power V_power) (e_power : ∀ ms, ms.length ≠ 1 → V_power ms = .no)
    (n_by_net_o : NSim false [0] F_by_net V_by_net_o) (e_by_net_o : ∀ ms, ms.length ≠ 2 → V_by_net_o ms = .no) : SimS false [] (f_look_net C_BadSteps F_power F_by_net) (v_look_net C_BadSteps V_power V_by_net_o) :=
  ss_for (sf_rng1 (sav_cons (se_callV n_power e_power (sa_cons (se_var 1) (sa_nil))) (sav_nil)) (len_cons len_nil)) (sg_name (by decide)) (ss_seq (ss_par (by decide) (by decide) (sa_cons (se_lstN (sa_nil)) (sa_cons (se_var 2) (sa_nil))))
    (ss_seq (ss_for (sf_rng1 (sav_cons (se_var 1) (sav_nil)) (len_cons len_nil)) (sg_name (by decide)) (ss_seq (ss_expr (se_mut n_append (sp_var 3) (sa_cons (se_op opv_mod (se_var 4) (se_c)) (sa_nil))))
    (ss_aug (by decide) opv_fdiv (se_c))))
    (ss_ite (st_tst (se_op opv_ne (se_call n_by_net_o e_by_net_o (si_pl (sp_var 3) (si_tm (se_var 0) (si_nil))) (pl_ok rfl)) (se_cb cv_tuple (sav_cons (se_cb cv_sortA (sav_cons (se_lk 3) (sav_nil))) (sav_nil))))) (ss_raiseE (sav_cons (se_op opv_add (se_c) (se_cb cv_str (sav_cons (se_var 2) (sav_nil)))) (sav_nil))) (ss_next))))
def F_look_net (C_BadSteps : Addr) : FN := runF ["steps", "many", "number", "row", "rest", "k"] (f_look_net C_BadSteps F_power (F_by_net C_BadSteps))
def V_look_net (C_BadSteps : Addr) : VN := runV 2 6 (v_look_net C_BadSteps V_power (V_by_net_o C_BadSteps))
theorem n_look_net (C_BadSteps : Addr) : NSim false [] (F_look_net C_BadSteps) (V_look_net C_BadSteps) := nsim_fn (s_look_net n_power e_power (n_by_net_o C_BadSteps) (e_by_net_o C_BadSteps))
theorem e_look_net (C_BadSteps : Addr) : ∀ ms, ms.length ≠ 2 → V_look_net C_BadSteps ms = .no := run_len
def f_layers_c2 : FT :=
  fTst (fOp gLe (fCB gLen (fCons (fVar 3) (fNil))) (fVar 6))
def f_layers_b2 : FS :=
  fExpr (fBM "list" gAppend (fVar 3) (fCons (fLst true (fNil)) (fNil)))
def f_layers_b1 : FS :=
  fSeq (fAsg (fCB gMax (fCons (fOp gIx (fVar 2) (fVar 4)) (fCons (fOp gIx (fVar 2) (fVar 5)) (fNil)))) (gtName 6))
    (fSeq (fWhile (f_layers_c2) (f_layers_b2) 100000)
    (fSeq (fExpr (fBM "list" gAppend (fOp gIx (fVar 3) (fVar 6)) (fCons (fTup (fCons (fVar 4) (fCons (fVar 5) (fNil)))) (fNil))))
    (fAsg (fTup (fCons (fOp (gAdd false) (fVar 6) (fC (.int 1))) (fCons (fOp (gAdd false) (fVar 6) (fC (.int 1))) (fNil)))) (gtTup 2 (gtCons (gtSub (fVar 2) (fVar 4)) (gtCons (gtSub (fVar 2) (fVar 5)) (gtNil)))))))
def f_layers : FS :=
  fSeq (fPar 2 3 (fCons (fOp (gMul true) (fLst false (fCons (fC (.int 0)) (fNil))) (fVar 1)) (fCons (fLst true (fNil)) (fNil))))
    (fSeq (fFor 100000 (fiSeq (fVar 0)) (gtTup 2 (gtCons (gtName 4) (gtCons (gtName 5) (gtNil)))) (f_layers_b1))
    (fRet (fCB gTuple (fCons (fLc 100000 false [7] (fiSeq (fVar 3)) (gtName 7) (fYes) (fCB gTuple (fCons (fVar 7) (fNil)))) (fNil)))))
def v_layers_c2 : VT :=
  vTst (vOp gLe (vLenP (pVar 3)) (vVar 6))
def v_layers_b2 : VS :=
  vExpr (vMut "list" V_append (pVar 3) (vCons (vLstN (vNil)) (vNil)))
def v_layers_b1 : VS :=
  vSeq (vAsg (vCB gMax (vCons (vOp gIx (vLk 2) (vVar 4)) (vCons (vOp gIx (vLk 2) (vVar 5)) (vNil)))) (tName 6))
    (vSeq (vWhile (v_layers_c2) (v_layers_b2) 100000)
    (vSeq (vExpr (vMut "list" V_append (pIx (pVar 3) (vVar 6)) (vCons (vTup (vCons (vVar 4) (vCons (vVar 5) (vNil)))) (vNil))))
    (vAsg (vTup (vCons (vOp (gAdd false) (vVar 6) (vC (.int 1))) (vCons (vOp (gAdd false) (vVar 6) (vC (.int 1))) (vNil)))) (tTup 2 (tCons (tSub (pVar 2) (vVar 4)) (tCons (tSub (pVar 2) (vVar 5)) (tNil)))))))
def v_layers : VS :=
  vSeq (vPar 2 3 (vCons (vOwn (vOp (gMul false) (vLst (vCons (vC (.int 0)) (vNil))) (vVar 1))) (vCons (vLstN (vNil)) (vNil))))
    (vSeq (vFor (viSeq (vVar 0)) (tTup 2 (tCons (tName 4) (tCons (tName 5) (tNil)))) (v_layers_b1))
    (vRet (vCB gTuple (vCons (vLcB 7 (pVar 3) (vYes) (vCB gTuple (vCons (vLb 7) (vNil)))) (vNil)))))
set_option maxHeartbeats 4000000 in
theorem s_layers : SimS false [] (f_layers) (v_layers) :=
  ss_seq (ss_par (by decide) (by decide) (sa_cons (se_opN opv_mul own_mul (se_lst (sa_cons (se_c) (sa_nil))) (se_var 1)) (sa_cons (se_lstN (sa_nil)) (sa_nil))))
    (ss_seq (ss_for (sf_seq (se_var 0)) (sg_tup (sgs_cons (sg_name (by decide)) (sgs_cons (sg_name (by decide)) (sgs_nil)))) (ss_seq (ss_asg (se_cb cv_max (sav_cons (se_op opv_ix (se_lk 2) (se_var 4)) (sav_cons (se_op opv_ix (se_lk 2) (se_var 5)) (sav_nil)))) (sg_name (by decide)))
    (ss_seq (ss_while 100000 (st_tst (se_op opv_le (se_lenP (sp_var 3)) (se_var 6))) (ss_expr (se_mut n_append (sp_var 3) (sa_cons (se_lstN (sa_nil)) (sa_nil)))))
    (ss_seq (ss_expr (se_mut n_append (sp_ix (sp_var 3) (se_var 6)) (sa_cons (se_tup (sa_cons (se_var 4) (sa_cons (se_var 5) (sa_nil)))) (sa_nil))))
    (ss_asg (se_tup (sa_cons (se_op opv_add (se_var 6) (se_c)) (sa_cons (se_op opv_add (se_var 6) (se_c)) (sa_nil)))) (sg_tup (sgs_cons (sg_sub (sp_var 2) (se_var 4)) (sgs_cons (sg_sub (sp_var 2) (se_var 5)) (sgs_nil)))))))))
    (ss_ret (se_cb cv_tuple (sav_cons (se_lcB (sp_var 3) (st_yes) (se_cb cv_tuple (sav_cons (se_lb 7) (sav_nil)))) (sav_nil)))))
def F_layers : FN := runF ["steps", "many", "free", "found", "low", "high", "k", "row"] (f_layers)
def V_layers : VN := runV 2 8 (v_layers)
theorem n_layers : NSim false [] (F_layers) (V_layers) := nsim_fn (s_layers)
theorem e_layers : ∀ ms, ms.length ≠ 2 → V_layers ms = .no := run_len
def f__law_done_b1 : FS :=
  fIte (fTst (fOp gGtA (fOp gIx (fVar 0) (fVar 2)) (fOp gIx (fVar 0) (fVar 3)))) (fAsg (fOp (gAdd false) (fOp (gAdd false) (fOp (gAdd false) (fOp (gAdd false) (fSl false (fVar 0) (fNoPart) (fPart (fVar 2))) (fLst false (fCons (fOp gIx (fVar 0) (fVar 3)) (fNil)))) (fSl false (fVar 0) (fPart (fOp (gAdd false) (fVar 2) (fC (.int 1)))) (fPart (fVar 3)))) (fLst false (fCons (fOp gIx (fVar 0) (fVar 2)) (fNil)))) (fSl false (fVar 0) (fPart (fOp (gAdd false) (fVar 3) (fC (.int 1)))) (fNoPart))) (gtName 0)) (fNext)
def f__law_done : FS :=
  fSeq (fFor 100000 (fiSeq (fVar 1)) (gtTup 2 (gtCons (gtName 2) (gtCons (gtName 3) (gtNil)))) (f__law_done_b1))
    (fRet (fVar 0))
def v__law_done_b1 : VS :=
  vIte (vTst (vOp gGtA (vOp gIx (vVar 0) (vVar 2)) (vOp gIx (vVar 0) (vVar 3)))) (vAsg (vOp (gAdd false) (vOp (gAdd false) (vOp (gAdd false) (vOp (gAdd false) (vSl (vVar 0) (vNoPart) (vPart (vVar 2))) (vLst (vCons (vOp gIx (vVar 0) (vVar 3)) (vNil)))) (vSl (vVar 0) (vPart (vOp (gAdd false) (vVar 2) (vC (.int 1)))) (vPart (vVar 3)))) (vLst (vCons (vOp gIx (vVar 0) (vVar 2)) (vNil)))) (vSl (vVar 0) (vPart (vOp (gAdd false) (vVar 3) (vC (.int 1)))) (vNoPart))) (tName 0)) (vNext)
def v__law_done : VS :=
  vSeq (vFor (viSeq (vVar 1)) (tTup 2 (tCons (tName 2) (tCons (tName 3) (tNil)))) (v__law_done_b1))
    (vRet (vVar 0))
set_option maxHeartbeats 4000000 in
theorem s__law_done : SimS true [] (f__law_done) (v__law_done) :=
  ss_seq (ss_for (sf_seq (se_var 1)) (sg_tup (sgs_cons (sg_name (by decide)) (sgs_cons (sg_name (by decide)) (sgs_nil)))) (ss_ite (st_tst (se_op opv_gtA (se_op opv_ix (se_var 0) (se_var 2)) (se_op opv_ix (se_var 0) (se_var 3)))) (ss_asg (se_op opv_add (se_op opv_add (se_op opv_add (se_op opv_add (se_sl (se_var 0) (sq_none) (sq_some (se_var 2))) (se_lst (sa_cons (se_op opv_ix (se_var 0) (se_var 3)) (sa_nil)))) (se_sl (se_var 0) (sq_some (se_op opv_add (se_var 2) (se_c))) (sq_some (se_var 3)))) (se_lst (sa_cons (se_op opv_ix (se_var 0) (se_var 2)) (sa_nil)))) (se_sl (se_var 0) (sq_some (se_op opv_add (se_var 3) (se_c))) (sq_none))) (sg_name (by decide))) (ss_next)))
    (ss_ret (se_var 0))
def F__law_done : FN := runF ["row", "steps", "low", "high"] (f__law_done)
def V__law_done : VN := runV 2 4 (v__law_done)
theorem n__law_done : NSim true [] (F__law_done) (V__law_done) := nsim_fn (s__law_done)
theorem e__law_done : ∀ ms, ms.length ≠ 2 → V__law_done ms = .no := run_len
def f__law_rows_b1 : FS :=
  fAsg (fOp (gAdd false) (fLc 100000 false [3] (fiSeq (fVar 1)) (gtName 3) (fYes) (fOp (gAdd false) (fVar 3) (fLst false (fCons (fC (.int 0)) (fNil))))) (fLc 100000 false [3] (fiSeq (fVar 1)) (gtName 3) (fYes) (fOp (gAdd false) (fVar 3) (fLst false (fCons (fC (.int 1)) (fNil)))))) (gtName 1)
def f__law_rows : FS :=
  fSeq (fAsg (fLst false (fCons (fLst false (fNil)) (fNil))) (gtName 1))
    (fSeq (fFor 100000 (fiRng1 (fCons (fVar 0) (fNil))) (gtName 2) (f__law_rows_b1))
    (fRet (fVar 1)))
def v__law_rows_b1 : VS :=
  vAsg (vOp (gAdd false) (vLc [3] (viSeq (vVar 1)) (tName 3) (vYes) (vOp (gAdd false) (vVar 3) (vLst (vCons (vC (.int 0)) (vNil))))) (vLc [3] (viSeq (vVar 1)) (tName 3) (vYes) (vOp (gAdd false) (vVar 3) (vLst (vCons (vC (.int 1)) (vNil)))))) (tName 1)
def v__law_rows : VS :=
  vSeq (vAsg (vLst (vCons (vLst (vNil)) (vNil))) (tName 1))
    (vSeq (vFor (viRng (vCons (vVar 0) (vNil))) (tName 2) (v__law_rows_b1))
    (vRet (vVar 1)))
set_option maxHeartbeats 4000000 in
theorem s__law_rows : SimS true [] (f__law_rows) (v__law_rows) :=
  ss_seq (ss_asg (se_lst (sa_cons (se_lst (sa_nil)) (sa_nil))) (sg_name (by decide)))
    (ss_seq (ss_for (sf_rng1 (sav_cons (se_var 0) (sav_nil)) (len_cons len_nil)) (sg_name (by decide)) (ss_asg (se_op opv_add (se_lc (sf_seq (se_var 1)) (so_name 3) (st_yes) (se_op opv_add (se_var 3) (se_lst (sa_cons (se_c) (sa_nil))))) (se_lc (sf_seq (se_var 1)) (so_name 3) (st_yes) (se_op opv_add (se_var 3) (se_lst (sa_cons (se_c) (sa_nil)))))) (sg_name (by decide))))
    (ss_ret (se_var 1)))
def F__law_rows : FN := runF ["many", "found", "k", "row"] (f__law_rows)
def V__law_rows : VN := runV 1 4 (v__law_rows)
theorem n__law_rows : NSim true [] (F__law_rows) (V__law_rows) := nsim_fn (s__law_rows)
theorem e__law_rows : ∀ ms, ms.length ≠ 1 → V__law_rows ms = .no := run_len
def f_law_b3 (K : PySem.W.Frag) (C_BadSteps : Addr) (F__law_rounds F__law_roll F_net F_by_net F__law_done F__law_rows F_look_net F_layers F_power : FN) : FS :=
  fAsg (fOp (gAdd false) (fVar 8) (fLst false (fCons (fVar 9) (fCons (fVar 10) (fNil))))) (gtName 8)
def f_law_b2 (K : PySem.W.Frag) (C_BadSteps : Addr) (F__law_rounds F__law_roll F_net F_by_net F__law_done F__law_rows F_look_net F_layers F_power : FN) : FS :=
  fSeq (fAsg (fLst false (fNil)) (gtName 8))
    (fSeq (fFor 100000 (fiSeq (fVar 7)) (gtTup 2 (gtCons (gtName 9) (gtCons (gtName 10) (gtNil)))) (f_law_b3 K C_BadSteps F__law_rounds F__law_roll F_net F_by_net F__law_done F__law_rows F_look_net F_layers F_power))
    (fSeq (fIte (fTst (fOp gNe (fCB gLen (fCons (fVar 8) (fNil))) (fCB gLen (fCons (fLc 100000 false [12] (fiRng1 (fCons (fCB gLen (fCons (fVar 8) (fNil))) (fNil))) (gtName 12) (fTst (fOp gNotIn (fOp gIx (fVar 8) (fVar 12)) (fSl false (fVar 8) (fNoPart) (fPart (fVar 12))))) (fVar 12)) (fNil))))) (fRet (fC (.bl false))) (fNext))
    (fAsg (fOp (gAdd false) (fVar 6) (fCB (gList false) (fCons (fVar 7) (fNil)))) (gtName 6))))
def f_law_b4 (K : PySem.W.Frag) (C_BadSteps : Addr) (F__law_rounds F__law_roll F_net F_by_net F__law_done F__law_rows F_look_net F_layers F_power : FN) : FS :=
  fSeq (fAsg (fOp (gAdd false) (fC (.int 1)) (fCB gMax (fCons (fOp gIx (fVar 11) (fVar 9)) (fCons (fOp gIx (fVar 11) (fVar 10)) (fNil))))) (gtSub (fVar 11) (fVar 9)))
    (fAsg (fOp gIx (fVar 11) (fVar 9)) (gtSub (fVar 11) (fVar 10)))
def f_law_b1 (K : PySem.W.Frag) (C_BadSteps : Addr) (F__law_rounds F__law_roll F_net F_by_net F__law_done F__law_rows F_look_net F_layers F_power : FN) : FS :=
  fSeq (fAsg (fCall (FN.len F__law_roll 2) (fCons (fVar 1) (fCons (fC (.int 8)) (fNil)))) (gtName 2))
    (fSeq (fAsg (fTup (fCons (fCall (FN.len F_net 1) (fCons (fVar 2) (fNil))) (fCons (fLc 100000 false [12] (fiRng1 (fCons (fVar 2) (fNil))) (gtName 12) (fYes) (fCall (FN.len F__law_roll 2) (fCons (fVar 1) (fCons (fC (.int 9)) (fNil))))) (fNil)))) (gtTup 2 (gtCons (gtName 3) (gtCons (gtName 4) (gtNil)))))
    (fSeq (fIte (fOrT (fTst (fOp gNe (fCB (gList false) (fCons (fCall (FN.len F_by_net 2) (fCons (fVar 4) (fCons (fVar 3) (fNil)))) (fNil))) (fCall (FN.len F__law_done 2) (fCons (fVar 4) (fCons (fVar 3) (fNil)))))) (fTst (fOp gNe (fCB (gList false) (fCons (fCall (FN.len F_by_net 2) (fCons (fVar 4) (fCons (fVar 3) (fNil)))) (fNil))) (fCB (gSortA false) (fCons (fVar 4) (fNil)))))) (fRet (fC (.bl false))) (fNext))
    (fSeq (fIte (fTst (fOp gNe (fLc 100000 false [15] (fiSeq (fCall (FN.len F__law_rows 1) (fCons (fVar 2) (fNil)))) (gtName 15) (fTst (fOp gNe (fCall (FN.len F__law_done 2) (fCons (fVar 15) (fCons (fVar 3) (fNil)))) (fCB (gSortA false) (fCons (fVar 15) (fNil))))) (fVar 15)) (fLst false (fNil)))) (fRet (fC (.bl false))) (fNext))
    (fSeq (fIte (fTru (fTell K [(C_BadSteps, .bl true)] (fun _ S => .ok (.bl false) S) (fCall (FN.len F_look_net 2) (fCons (fVar 3) (fCons (fVar 2) (fNil)))))) (fRet (fC (.bl false))) (fNext))
    (fSeq (fPar 5 6 (fCons (fCall (FN.len F_layers 2) (fCons (fVar 3) (fCons (fVar 2) (fNil)))) (fCons (fLst false (fNil)) (fNil))))
    (fSeq (fFor 100000 (fiSeq (fVar 5)) (gtName 7) (f_law_b2 K C_BadSteps F__law_rounds F__law_roll F_net F_by_net F__law_done F__law_rows F_look_net F_layers F_power))
    (fSeq (fIte (fOrT (fTst (fOp gNe (fCB (gSortA false) (fCons (fVar 6) (fNil))) (fCB (gSortA false) (fCons (fVar 3) (fNil))))) (fTst (fOp gNe (fCall (FN.len F__law_done 2) (fCons (fVar 4) (fCons (fVar 6) (fNil)))) (fCB (gSortA false) (fCons (fVar 4) (fNil)))))) (fRet (fC (.bl false))) (fNext))
    (fSeq (fAsg (fOp (gMul true) (fLst false (fCons (fC (.int 0)) (fNil))) (fVar 2)) (gtName 11))
    (fSeq (fFor 100000 (fiSeq (fVar 3)) (gtTup 2 (gtCons (gtName 9) (gtCons (gtName 10) (gtNil)))) (f_law_b4 K C_BadSteps F__law_rounds F__law_roll F_net F_by_net F__law_done F__law_rows F_look_net F_layers F_power))
    (fSeq (fIte (fOrT (fTst (fOp gNe (fCB gLen (fCons (fVar 5) (fNil))) (fCB gMax (fCons (fOp (gAdd false) (fVar 11) (fLst false (fCons (fC (.int 0)) (fNil)))) (fNil))))) (fTst (fOp gNe (fCall (FN.len F_power 1) (fCons (fVar 2) (fNil))) (fCB gLen (fCons (fCall (FN.len F__law_rows 1) (fCons (fVar 2) (fNil))) (fNil)))))) (fRet (fC (.bl false))) (fNext))
    (fSeq (fIte (fTst (fOp gNe (fVar 3) (fTup (fNil)))) (fSeq (fAsg (fCall (FN.len F__law_roll 2) (fCons (fVar 1) (fCons (fCB gLen (fCons (fVar 3) (fNil))) (fNil)))) (gtName 12))
    (fSeq (fAsg (fOp (gAdd false) (fSl false (fVar 3) (fNoPart) (fPart (fVar 12))) (fSl false (fVar 3) (fPart (fOp (gAdd false) (fVar 12) (fC (.int 1)))) (fNoPart))) (gtName 13))
    (fSeq (fAsg (fOp gNe (fLc 100000 false [15] (fiSeq (fCall (FN.len F__law_rows 1) (fCons (fVar 2) (fNil)))) (gtName 15) (fTst (fOp gNe (fCall (FN.len F__law_done 2) (fCons (fVar 15) (fCons (fVar 13) (fNil)))) (fCB (gSortA false) (fCons (fVar 15) (fNil))))) (fVar 15)) (fLst false (fNil))) (gtName 14))
    (fIte (fTst (fOp gNe (fTell K [(C_BadSteps, .bl true)] (fun _ S => .ok (.bl false) S) (fCall (FN.len F_look_net 2) (fCons (fVar 13) (fCons (fVar 2) (fNil))))) (fVar 14))) (fRet (fC (.bl false))) (fNext))))) (fNext))
    (fSeq (fIte (fNotT (fTru (fTell K [(C_BadSteps, .bl true)] (fun _ S => .ok (.bl false) S) (fCall (FN.len F_by_net 2) (fCons (fVar 4) (fCons (fTup (fCons (fTup (fCons (fC (.int 0)) (fCons (fVar 2) (fNil)))) (fNil))) (fNil))))))) (fRet (fC (.bl false))) (fNext))
    (fIte (fAndT (fTst (fOp gGtA (fVar 2) (fC (.int 1)))) (fNotT (fTru (fTell K [(C_BadSteps, .bl true)] (fun _ S => .ok (.bl false) S) (fCall (FN.len F_by_net 2) (fCons (fVar 4) (fCons (fTup (fCons (fTup (fCons (fC (.int 1)) (fCons (fC (.int 0)) (fNil)))) (fNil))) (fNil)))))))) (fRet (fC (.bl false))) (fNext))))))))))))))
def f_law (K : PySem.W.Frag) (C_BadSteps : Addr) (F__law_rounds F__law_roll F_net F_by_net F__law_done F__law_rows F_look_net F_layers F_power : FN) : FS :=
  fSeq (fFor 100000 (fiSeq (fCall (FN.len F__law_rounds 2) (fCons (fVar 0) (fCons (fC (.int 2)) (fNil))))) (gtName 1) (f_law_b1 K C_BadSteps F__law_rounds F__law_roll F_net F_by_net F__law_done F__law_rows F_look_net F_layers F_power))
    (fRet (fC (.bl true)))
def v_law_b3 (K : PySem.W.Frag) (C_BadSteps : Addr) (V__law_rounds V__law_roll V_net V_by_net V__law_done V__law_rows V_look_net V_layers V_power : VN) : VS :=
  vAsg (vOp (gAdd false) (vVar 8) (vLst (vCons (vVar 9) (vCons (vVar 10) (vNil))))) (tName 8)
def v_law_b2 (K : PySem.W.Frag) (C_BadSteps : Addr) (V__law_rounds V__law_roll V_net V_by_net V__law_done V__law_rows V_look_net V_layers V_power : VN) : VS :=
  vSeq (vAsg (vLst (vNil)) (tName 8))
    (vSeq (vFor (viSeq (vVar 7)) (tTup 2 (tCons (tName 9) (tCons (tName 10) (tNil)))) (v_law_b3 K C_BadSteps V__law_rounds V__law_roll V_net V_by_net V__law_done V__law_rows V_look_net V_layers V_power))
    (vSeq (vIte (vTst (vOp gNe (vCB gLen (vCons (vVar 8) (vNil))) (vCB gLen (vCons (vLc [12] (viRng (vCons (vCB gLen (vCons (vVar 8) (vNil))) (vNil))) (tName 12) (vTst (vOp gNotIn (vOp gIx (vVar 8) (vVar 12)) (vSl (vVar 8) (vNoPart) (vPart (vVar 12))))) (vVar 12)) (vNil))))) (vRet (vC (.bl false))) (vNext))
    (vAsg (vOp (gAdd false) (vVar 6) (vCB (gList false) (vCons (vVar 7) (vNil)))) (tName 6))))
def v_law_b4 (K : PySem.W.Frag) (C_BadSteps : Addr) (V__law_rounds V__law_roll V_net V_by_net V__law_done V__law_rows V_look_net V_layers V_power : VN) : VS :=
  vSeq (vAsg (vOp (gAdd false) (vC (.int 1)) (vCB gMax (vCons (vOp gIx (vLk 11) (vVar 9)) (vCons (vOp gIx (vLk 11) (vVar 10)) (vNil))))) (tSub (pVar 11) (vVar 9)))
    (vAsg (vOp gIx (vLk 11) (vVar 9)) (tSub (pVar 11) (vVar 10)))
def v_law_b1 (K : PySem.W.Frag) (C_BadSteps : Addr) (V__law_rounds V__law_roll V_net V_by_net V__law_done V__law_rows V_look_net V_layers V_power : VN) : VS :=
  vSeq (vAsg (vCall V__law_roll (wPl (pVar 1) (wTm (vC (.int 8)) (wNil)))) (tName 2))
    (vSeq (vAsg (vTup (vCons (vCallV V_net (vCons (vVar 2) (vNil))) (vCons (vLcE [12] (viRng (vCons (vVar 2) (vNil))) (tName 12) (vYes) (vCall V__law_roll (wPl (pVar 1) (wTm (vC (.int 9)) (wNil)))) frzM) (vNil)))) (tTup 2 (tCons (tName 3) (tCons (tName 4) (tNil)))))
    (vSeq (vIte (vOrT (vTst (vOp gNe (vCB (gList false) (vCons (vCallV V_by_net (vCons (vVar 4) (vCons (vVar 3) (vNil)))) (vNil))) (vCallV V__law_done (vCons (vVar 4) (vCons (vVar 3) (vNil)))))) (vTst (vOp gNe (vCB (gList false) (vCons (vCallV V_by_net (vCons (vVar 4) (vCons (vVar 3) (vNil)))) (vNil))) (vCB (gSortA false) (vCons (vVar 4) (vNil)))))) (vRet (vC (.bl false))) (vNext))
    (vSeq (vIte (vTst (vOp gNe (vLc [15] (viSeq (vCallV V__law_rows (vCons (vVar 2) (vNil)))) (tName 15) (vTst (vOp gNe (vCallV V__law_done (vCons (vVar 15) (vCons (vVar 3) (vNil)))) (vCB (gSortA false) (vCons (vVar 15) (vNil))))) (vVar 15)) (vLst (vNil)))) (vRet (vC (.bl false))) (vNext))
    (vSeq (vIte (vTru (vTell K [(C_BadSteps, .bl true)] (fun _ e => .ok (.val (.bl false)) e) (vCallV V_look_net (vCons (vVar 3) (vCons (vVar 2) (vNil)))))) (vRet (vC (.bl false))) (vNext))
    (vSeq (vPar 5 6 (vCons (vCallV V_layers (vCons (vVar 3) (vCons (vVar 2) (vNil)))) (vCons (vLst (vNil)) (vNil))))
    (vSeq (vFor (viSeq (vVar 5)) (tName 7) (v_law_b2 K C_BadSteps V__law_rounds V__law_roll V_net V_by_net V__law_done V__law_rows V_look_net V_layers V_power))
    (vSeq (vIte (vOrT (vTst (vOp gNe (vCB (gSortA false) (vCons (vVar 6) (vNil))) (vCB (gSortA false) (vCons (vVar 3) (vNil))))) (vTst (vOp gNe (vCallV V__law_done (vCons (vVar 4) (vCons (vVar 6) (vNil)))) (vCB (gSortA false) (vCons (vVar 4) (vNil)))))) (vRet (vC (.bl false))) (vNext))
    (vSeq (vAsg (vOwn (vOp (gMul false) (vLst (vCons (vC (.int 0)) (vNil))) (vVar 2))) (tName 11))
    (vSeq (vFor (viSeq (vVar 3)) (tTup 2 (tCons (tName 9) (tCons (tName 10) (tNil)))) (v_law_b4 K C_BadSteps V__law_rounds V__law_roll V_net V_by_net V__law_done V__law_rows V_look_net V_layers V_power))
    (vSeq (vIte (vOrT (vTst (vOp gNe (vCB gLen (vCons (vVar 5) (vNil))) (vCB gMax (vCons (vOp (gAdd false) (vLk 11) (vLst (vCons (vC (.int 0)) (vNil)))) (vNil))))) (vTst (vOp gNe (vCallV V_power (vCons (vVar 2) (vNil))) (vCB gLen (vCons (vCallV V__law_rows (vCons (vVar 2) (vNil))) (vNil)))))) (vRet (vC (.bl false))) (vNext))
    (vSeq (vIte (vTst (vOp gNe (vVar 3) (vTup (vNil)))) (vSeq (vAsg (vCall V__law_roll (wPl (pVar 1) (wTm (vCB gLen (vCons (vVar 3) (vNil))) (wNil)))) (tName 12))
    (vSeq (vAsg (vOp (gAdd false) (vSl (vVar 3) (vNoPart) (vPart (vVar 12))) (vSl (vVar 3) (vPart (vOp (gAdd false) (vVar 12) (vC (.int 1)))) (vNoPart))) (tName 13))
    (vSeq (vAsg (vOp gNe (vLc [15] (viSeq (vCallV V__law_rows (vCons (vVar 2) (vNil)))) (tName 15) (vTst (vOp gNe (vCallV V__law_done (vCons (vVar 15) (vCons (vVar 13) (vNil)))) (vCB (gSortA false) (vCons (vVar 15) (vNil))))) (vVar 15)) (vLst (vNil))) (tName 14))
    (vIte (vTst (vOp gNe (vTell K [(C_BadSteps, .bl true)] (fun _ e => .ok (.val (.bl false)) e) (vCallV V_look_net (vCons (vVar 13) (vCons (vVar 2) (vNil))))) (vVar 14))) (vRet (vC (.bl false))) (vNext))))) (vNext))
    (vSeq (vIte (vNotT (vTru (vTell K [(C_BadSteps, .bl true)] (fun _ e => .ok (.val (.bl false)) e) (vCallV V_by_net (vCons (vVar 4) (vCons (vTup (vCons (vTup (vCons (vC (.int 0)) (vCons (vVar 2) (vNil)))) (vNil))) (vNil))))))) (vRet (vC (.bl false))) (vNext))
    (vIte (vAndT (vTst (vOp gGtA (vVar 2) (vC (.int 1)))) (vNotT (vTru (vTell K [(C_BadSteps, .bl true)] (fun _ e => .ok (.val (.bl false)) e) (vCallV V_by_net (vCons (vVar 4) (vCons (vTup (vCons (vTup (vCons (vC (.int 1)) (vCons (vC (.int 0)) (vNil)))) (vNil))) (vNil)))))))) (vRet (vC (.bl false))) (vNext))))))))))))))
def v_law (K : PySem.W.Frag) (C_BadSteps : Addr) (V__law_rounds V__law_roll V_net V_by_net V__law_done V__law_rows V_look_net V_layers V_power : VN) : VS :=
  vSeq (vForO (vCallV V__law_rounds (vCons (vVar 0) (vCons (vC (.int 2)) (vNil)))) (tName 1) (v_law_b1 K C_BadSteps V__law_rounds V__law_roll V_net V_by_net V__law_done V__law_rows V_look_net V_layers V_power))
    (vRet (vC (.bl true)))
set_option maxHeartbeats 4000000 in
theorem s_law {K : PySem.W.Frag} {C_BadSteps : Addr} {F__law_rounds F__law_roll F_net F_by_net F__law_done F__law_rows F_look_net F_layers F_power : FN} {V__law_rounds V__law_roll V_net V_by_net V__law_done V__law_rows V_look_net V_layers V_power : VN}
    (n__law_rounds : NSim true [] F__law_rounds V__law_rounds) (e__law_rounds : ∀ ms, ms.length ≠ 2 → V__law_rounds ms = .no)
    (n__law_roll : NSim false [0] F__law_roll V__law_roll) (e__law_roll : ∀ ms, ms.length ≠ 2 → V__law_roll ms = .no)
    (n_net : NSim false [] F_net V_net) (e_net : ∀ ms, ms.length ≠ 1 → V_net ms = .no)
    (n_by_net : NSim false [] F_by_net V_by_net) (e_by_net : ∀ ms, ms.length ≠ 2 → V_by_net ms = .no)
    (n__law_done : NSim true [] F__law_done V__law_done) (e__law_done : ∀ ms, ms.length ≠ 2 → V__law_done ms = .no)
    (n__law_rows : NSim true [] F__law_rows V__law_rows) (e__law_rows : ∀ ms, ms.length ≠ 1 → V__law_rows ms = .no)
    (n_look_net : NSim false [] F_look_net V_look_net) (e_look_net : ∀ ms, ms.length ≠ 2 → V_look_net ms = .no)
    (n_layers : NSim false [] F_layers V_layers) (e_layers : ∀ ms, ms.length ≠ 2 → V_layers ms = .no)
    (n_power : NSim true [] F_power V_power) (e_power : ∀ ms, ms.length ≠ 1 → V_power ms = .no) : SimS false [] (f_law K C_BadSteps F__law_rounds F__law_roll F_net F_by_net F__law_done F__law_rows F_look_net F_layers F_power) (v_law K C_BadSteps V__law_rounds V__law_roll V_net V_by_net V__law_done V__law_rows V_look_net V_layers V_power) :=
  ss_seq (ss_forO (se_callV n__law_rounds e__law_rounds (sa_cons (se_var 0) (sa_cons (se_c) (sa_nil)))) (sg_name (by decide)) (ss_seq (ss_asg (se_call n__law_roll e__law_roll (si_pl (sp_var 1) (si_tm (se_c) (si_nil))) (pl_ok rfl)) (sg_name (by decide)))
    (ss_seq (ss_asg (se_tup (sa_cons (se_callV n_net e_net (sa_cons (se_var 2) (sa_nil))) (sa_cons (se_lcE (sf_rng1 (sav_cons (se_var 2) (sav_nil)) (len_cons len_nil)) (so_name 12) (st_yes) (se_call n__law_roll e__law_roll (si_pl (sp_var 1) (si_tm (se_c) (si_nil))) (pl_ok rfl))) (sa_nil)))) (sg_tup (sgs_cons (sg_name (by decide)) (sgs_cons (sg_name (by decide)) (sgs_nil)))))
    (ss_seq (ss_ite (st_or (st_tst (se_op opv_ne (se_cb cv_list (sav_cons (se_callV n_by_net e_by_net (sa_cons (se_var 4) (sa_cons (se_var 3) (sa_nil)))) (sav_nil))) (se_callV n__law_done e__law_done (sa_cons (se_var 4) (sa_cons (se_var 3) (sa_nil)))))) (st_tst (se_op opv_ne (se_cb cv_list (sav_cons (se_callV n_by_net e_by_net (sa_cons (se_var 4) (sa_cons (se_var 3) (sa_nil)))) (sav_nil))) (se_cb cv_sortA (sav_cons (se_var 4) (sav_nil)))))) (ss_ret (se_c)) (ss_next))
    (ss_seq (ss_ite (st_tst (se_op opv_ne (se_lc (sf_seq (se_callV n__law_rows e__law_rows (sa_cons (se_var 2) (sa_nil)))) (so_name 15) (st_tst (se_op opv_ne (se_callV n__law_done e__law_done (sa_cons (se_var 15) (sa_cons (se_var 3) (sa_nil)))) (se_cb cv_sortA (sav_cons (se_var 15) (sav_nil))))) (se_var 15)) (se_lst (sa_nil)))) (ss_ret (se_c)) (ss_next))
    (ss_seq (ss_ite (st_tru (se_tellC (se_callV n_look_net e_look_net (sa_cons (se_var 3) (sa_cons (se_var 2) (sa_nil)))) (by intro y hy; simp at hy; rcases hy with rfl <;> rfl))) (ss_ret (se_c)) (ss_next))
    (ss_seq (ss_par (by decide) (by decide) (sa_cons (se_callV n_layers e_layers (sa_cons (se_var 3) (sa_cons (se_var 2) (sa_nil)))) (sa_cons (se_lst (sa_nil)) (sa_nil))))
    (ss_seq (ss_for (sf_seq (se_var 5)) (sg_name (by decide)) (ss_seq (ss_asg (se_lst (sa_nil)) (sg_name (by decide)))
    (ss_seq (ss_for (sf_seq (se_var 7)) (sg_tup (sgs_cons (sg_name (by decide)) (sgs_cons (sg_name (by decide)) (sgs_nil)))) (ss_asg (se_op opv_add (se_var 8) (se_lst (sa_cons (se_var 9) (sa_cons (se_var 10) (sa_nil))))) (sg_name (by decide))))
    (ss_seq (ss_ite (st_tst (se_op opv_ne (se_cb cv_len (sav_cons (se_var 8) (sav_nil))) (se_cb cv_len (sav_cons (se_lc (sf_rng1 (sav_cons (se_cb cv_len (sav_cons (se_var 8) (sav_nil))) (sav_nil)) (len_cons len_nil)) (so_name 12) (st_tst (se_op opv_notin (se_op opv_ix (se_var 8) (se_var 12)) (se_sl (se_var 8) (sq_none) (sq_some (se_var 12))))) (se_var 12)) (sav_nil))))) (ss_ret (se_c)) (ss_next))
    (ss_asg (se_op opv_add (se_var 6) (se_cb cv_list (sav_cons (se_var 7) (sav_nil)))) (sg_name (by decide)))))))
    (ss_seq (ss_ite (st_or (st_tst (se_op opv_ne (se_cb cv_sortA (sav_cons (se_var 6) (sav_nil))) (se_cb cv_sortA (sav_cons (se_var 3) (sav_nil))))) (st_tst (se_op opv_ne (se_callV n__law_done e__law_done (sa_cons (se_var 4) (sa_cons (se_var 6) (sa_nil)))) (se_cb cv_sortA (sav_cons (se_var 4) (sav_nil)))))) (ss_ret (se_c)) (ss_next))
    (ss_seq (ss_asg (se_opN opv_mul own_mul (se_lst (sa_cons (se_c) (sa_nil))) (se_var 2)) (sg_name (by decide)))
    (ss_seq (ss_for (sf_seq (se_var 3)) (sg_tup (sgs_cons (sg_name (by decide)) (sgs_cons (sg_name (by decide)) (sgs_nil)))) (ss_seq (ss_asg (se_op opv_add (se_c) (se_cb cv_max (sav_cons (se_op opv_ix (se_lk 11) (se_var 9)) (sav_cons (se_op opv_ix (se_lk 11) (se_var 10)) (sav_nil))))) (sg_sub (sp_var 11) (se_var 9)))
    (ss_asg (se_op opv_ix (se_lk 11) (se_var 9)) (sg_sub (sp_var 11) (se_var 10)))))
    (ss_seq (ss_ite (st_or (st_tst (se_op opv_ne (se_cb cv_len (sav_cons (se_var 5) (sav_nil))) (se_cb cv_max (sav_cons (se_op opv_add (se_lk 11) (se_lst (sa_cons (se_c) (sa_nil)))) (sav_nil))))) (st_tst (se_op opv_ne (se_callV n_power e_power (sa_cons (se_var 2) (sa_nil))) (se_cb cv_len (sav_cons (se_callV n__law_rows e__law_rows (sa_cons (se_var 2) (sa_nil))) (sav_nil)))))) (ss_ret (se_c)) (ss_next))
    (ss_seq (ss_ite (st_tst (se_op opv_ne (se_var 3) (se_tup (sa_nil)))) (ss_seq (ss_asg (se_call n__law_roll e__law_roll (si_pl (sp_var 1) (si_tm (se_cb cv_len (sav_cons (se_var 3) (sav_nil))) (si_nil))) (pl_ok rfl)) (sg_name (by decide)))
    (ss_seq (ss_asg (se_op opv_add (se_sl (se_var 3) (sq_none) (sq_some (se_var 12))) (se_sl (se_var 3) (sq_some (se_op opv_add (se_var 12) (se_c))) (sq_none))) (sg_name (by decide)))
    (ss_seq (ss_asg (se_op opv_ne (se_lc (sf_seq (se_callV n__law_rows e__law_rows (sa_cons (se_var 2) (sa_nil)))) (so_name 15) (st_tst (se_op opv_ne (se_callV n__law_done e__law_done (sa_cons (se_var 15) (sa_cons (se_var 13) (sa_nil)))) (se_cb cv_sortA (sav_cons (se_var 15) (sav_nil))))) (se_var 15)) (se_lst (sa_nil))) (sg_name (by decide)))
    (ss_ite (st_tst (se_op opv_ne (se_tellC (se_callV n_look_net e_look_net (sa_cons (se_var 13) (sa_cons (se_var 2) (sa_nil)))) (by intro y hy; simp at hy; rcases hy with rfl <;> rfl)) (se_var 14))) (ss_ret (se_c)) (ss_next))))) (ss_next))
    (ss_seq (ss_ite (st_not (st_tru (se_tellC (se_callV n_by_net e_by_net (sa_cons (se_var 4) (sa_cons (se_tup (sa_cons (se_tup (sa_cons (se_c) (sa_cons (se_var 2) (sa_nil)))) (sa_nil))) (sa_nil)))) (by intro y hy; simp at hy; rcases hy with rfl <;> rfl)))) (ss_ret (se_c)) (ss_next))
    (ss_ite (st_and (st_tst (se_op opv_gtA (se_var 2) (se_c))) (st_not (st_tru (se_tellC (se_callV n_by_net e_by_net (sa_cons (se_var 4) (sa_cons (se_tup (sa_cons (se_tup (sa_cons (se_c) (sa_cons (se_c) (sa_nil)))) (sa_nil))) (sa_nil)))) (by intro y hy; simp at hy; rcases hy with rfl <;> rfl))))) (ss_ret (se_c)) (ss_next))))))))))))))))
    (ss_ret (se_c))
def F_law (K : PySem.W.Frag) (C_BadSteps : Addr) : FN := runF ["script", "dice", "many", "steps", "row", "rows", "flat", "line", "places", "low", "high", "depth", "k", "less", "fails", "one"] (f_law K C_BadSteps F__law_rounds F__law_roll F_net (F_by_net C_BadSteps) F__law_done F__law_rows (F_look_net C_BadSteps) F_layers F_power)
def V_law (K : PySem.W.Frag) (C_BadSteps : Addr) : VN := runV 1 16 (v_law K C_BadSteps V__law_rounds V__law_roll V_net (V_by_net C_BadSteps) V__law_done V__law_rows (V_look_net C_BadSteps) V_layers V_power)
theorem n_law (K : PySem.W.Frag) (C_BadSteps : Addr) : NSim false [] (F_law K C_BadSteps) (V_law K C_BadSteps) := nsim_fn (s_law n__law_rounds e__law_rounds n__law_roll e__law_roll n_net e_net (n_by_net C_BadSteps) (e_by_net C_BadSteps) n__law_done e__law_done n__law_rows e__law_rows (n_look_net C_BadSteps) (e_look_net C_BadSteps) n_layers e_layers n_power e_power)
theorem e_law (K : PySem.W.Frag) (C_BadSteps : Addr) : ∀ ms, ms.length ≠ 1 → V_law K C_BadSteps ms = .no := run_len
structure Xf (K : PySem.W.Frag) (C_BadSteps : Addr) : Prop where
  BadSteps_BadSteps : PySem.W.exmOne K (.ref C_BadSteps) (.ref C_BadSteps) = some true
end Law

namespace Law
open PF
variable [Tab]
/-! ### exchanges -/
def swp (l : List Int) (i j : Nat) : List Int := (l.set i (l.getD j 0)).set j (l.getD i 0)
def cxI (l : List Int) (p : Nat × Nat) : List Int := if l.getD p.2 0 < l.getD p.1 0 then swp l p.1 p.2 else l
def runN (ps : List (Nat × Nat)) (l : List Int) : List Int := ps.foldl cxI l
def okN (n : Nat) (ps : List (Nat × Nat)) : Bool := ps.all fun p => decide (p.1 < p.2) && decide (p.2 < n)
theorem swp_len (l : List Int) (i j : Nat) : (swp l i j).length = l.length := by simp [swp]
theorem cxI_len (l : List Int) (p : Nat × Nat) : (cxI l p).length = l.length := by unfold cxI; split <;> simp [swp_len]
theorem runN_len : ∀ (ps : List (Nat × Nat)) (l : List Int), (runN ps l).length = l.length
  | [], l => rfl
  | p :: ps, l => by show (runN ps (cxI l p)).length = _; rw [runN_len ps, cxI_len]
theorem swp_perm {l : List Int} {i j : Nat} (hi : i < l.length) (hj : j < l.length) : (swp l i j).Perm l := by
  have h := Array.swap_perm (xs := l.toArray) (i := i) (j := j) (by simpa using hi) (by simpa using hj)
  have h2 := h.toList
  have e : (l.toArray.swap i j (by simpa using hi) (by simpa using hj)).toList = swp l i j := by
    simp [swp, Array.swap, List.getD, hi, hj]
  rw [e] at h2
  simpa using h2
theorem cxI_perm {l : List Int} {p : Nat × Nat} (h : p.1 < p.2) (h2 : p.2 < l.length) : (cxI l p).Perm l := by
  unfold cxI
  split
  · exact swp_perm (by omega) h2
  · exact .refl _
theorem okN_cons {n : Nat} {p : Nat × Nat} {ps : List (Nat × Nat)} (h : okN n (p :: ps) = true) : p.1 < p.2 ∧ p.2 < n ∧ okN n ps = true := by
  simp only [okN, List.all_cons, Bool.and_eq_true, decide_eq_true_eq] at h
  exact ⟨h.1.1, h.1.2, h.2⟩
theorem runN_perm : ∀ (ps : List (Nat × Nat)) (l : List Int), okN l.length ps = true → (runN ps l).Perm l
  | [], l, _ => .refl _
  | p :: ps, l, h => by
    obtain ⟨h1, h2, h3⟩ := okN_cons h
    show (runN ps (cxI l p)).Perm l
    exact (runN_perm ps (cxI l p) (by rw [cxI_len]; exact h3)).trans (cxI_perm h1 h2)
theorem getD_map {f : Int → Int} {l : List Int} {i : Nat} (h : i < l.length) : (l.map f).getD i 0 = f (l.getD i 0) := by
  simp [List.getD, h]
theorem cxI_map {f : Int → Int} (hf : ∀ a b, a ≤ b → f a ≤ f b) {l : List Int} {p : Nat × Nat} (h : p.1 < p.2) (h2 : p.2 < l.length) : cxI (l.map f) p = (cxI l p).map f := by
  unfold cxI
  rw [getD_map h2, getD_map (by omega)]
  by_cases c : l.getD p.2 0 < l.getD p.1 0
  · rw [if_pos c]
    have hm : (swp l p.1 p.2).map f = swp (l.map f) p.1 p.2 := by
      unfold swp
      rw [getD_map h2, getD_map (by omega), List.map_set, List.map_set]
    by_cases c2 : f (l.getD p.2 0) < f (l.getD p.1 0)
    · rw [if_pos c2, hm]
    · rw [if_neg c2, hm]
      have e : f (l.getD p.2 0) = f (l.getD p.1 0) := by
        have := hf _ _ (Int.le_of_lt c); omega
      unfold swp
      rw [getD_map h2, getD_map (by omega), e]
      have e1 : (l.map f).set p.1 (f (l.getD p.1 0)) = l.map f := by
        apply List.ext_getElem?
        intro k
        rw [List.getElem?_set]
        split
        · rename_i hk; subst hk
          simp [List.getD, show p.1 < l.length by omega]
        · rfl
      rw [e1]
      apply List.ext_getElem?
      intro k
      rw [List.getElem?_set]
      split
      · rename_i hk; subst hk
        rw [← e]
        simp [List.getD, h2]
      · rfl
  · rw [if_neg c, if_neg]
    have := hf _ _ (Int.not_lt.mp c); omega
theorem runN_map {f : Int → Int} (hf : ∀ a b, a ≤ b → f a ≤ f b) : ∀ (ps : List (Nat × Nat)) (l : List Int), okN l.length ps = true → runN ps (l.map f) = (runN ps l).map f
  | [], l, _ => rfl
  | p :: ps, l, h => by
    obtain ⟨h1, h2, h3⟩ := okN_cons h
    show runN ps (cxI (l.map f) p) = (runN ps (cxI l p)).map f
    rw [cxI_map hf h1 h2]
    exact runN_map hf ps (cxI l p) (by rw [cxI_len]; exact h3)
def bitsL : Nat → List (List Int)
  | 0 => [[]]
  | n + 1 => (bitsL n).map (List.cons 0) ++ (bitsL n).map (List.cons 1)
theorem bitsL_mem : ∀ (l : List Int), (∀ x ∈ l, x = 0 ∨ x = 1) → l ∈ bitsL l.length
  | [], _ => by simp [bitsL]
  | x :: l, h => by
    have := bitsL_mem l fun y hy => h y (by simp [hy])
    rcases h x (by simp) with rfl | rfl <;> simp [bitsL, this]
def allOk (n : Nat) (ps : List (Nat × Nat)) : Bool := okN n ps && (bitsL n).all fun b => decide (runN ps b = isort b)
theorem zero_one {n : Nat} {ps : List (Nat × Nat)} (h : allOk n ps = true) {l : List Int} (hl : l.length = n) : runN ps l = isort l := by
  unfold allOk at h
  rw [Bool.and_eq_true] at h
  obtain ⟨h1, h2⟩ := h
  rw [← hl] at h1
  refine sorted_unique ((runN_perm ps l h1).trans (isort_perm l).symm) ?_ (isort_sorted l)
  rw [List.pairwise_iff_getElem]
  intro i j hi hj hij
  refine Classical.byContradiction fun hc => ?_
  have hc : (runN ps l)[j] < (runN ps l)[i] := Int.not_le.mp hc
  let t := (runN ps l)[i]
  let f : Int → Int := fun x => if t ≤ x then 1 else 0
  have hf : ∀ a b, a ≤ b → f a ≤ f b := fun a b hab => by
    show (if t ≤ a then (1 : Int) else 0) ≤ if t ≤ b then 1 else 0
    split <;> split <;> omega
  have hm := runN_map hf ps l h1
  have hb : l.map f ∈ bitsL n := by
    have := bitsL_mem (l.map f) fun x hx => by
      obtain ⟨y, _, rfl⟩ := List.mem_map.mp hx
      show (if t ≤ y then (1 : Int) else 0) = 0 ∨ _
      split
      · rename_i q; right; show (if t ≤ y then (1 : Int) else 0) = 1; rw [if_pos q]
      · exact .inl rfl
    rwa [List.length_map, hl] at this
  have hs := List.all_eq_true.mp h2 _ hb
  have hs : runN ps (l.map f) = isort (l.map f) := by simpa using hs
  have hp := isort_sorted (l.map f)
  rw [← hs, hm] at hp
  have := List.pairwise_iff_getElem.mp hp i j (by simpa using hi) (by simpa using hj) hij
  rw [List.getElem_map, List.getElem_map] at this
  have e1 : f (runN ps l)[i] = 1 := if_pos (Int.le_refl t)
  have e2 : f (runN ps l)[j] = 0 := if_neg (by show ¬ t ≤ _; have : (runN ps l)[j] < t := hc; omega)
  rw [e1, e2] at this
  omega
end Law

namespace Law
open PySem L2 PF VF
def netL : Nat → List (Nat × Nat)
  | 0 => []
  | 1 => []
  | 2 => [(0, 1)]
  | 3 => [(0, 1), (0, 2), (1, 2)]
  | 4 => [(0, 1), (2, 3), (0, 2), (1, 3), (1, 2)]
  | 5 => [(0, 1), (2, 3), (0, 2), (1, 3), (1, 2), (0, 4), (2, 4), (1, 2), (3, 4)]
  | 6 => [(0, 1), (2, 3), (4, 5), (0, 2), (1, 3), (1, 2), (0, 4), (1, 5), (2, 4), (3, 5), (1, 2), (3, 4)]
  | 7 => [(0, 1), (2, 3), (4, 5), (0, 2), (1, 3), (4, 6), (1, 2), (5, 6), (0, 4), (1, 5), (2, 6), (2, 4), (3, 5), (1, 2), (3, 4), (5, 6)]
  | _ => []
def layL : Nat → List (List (Nat × Nat))
  | 0 => []
  | 1 => []
  | 2 => [[(0, 1)]]
  | 3 => [[(0, 1)], [(0, 2)], [(1, 2)]]
  | 4 => [[(0, 1), (2, 3)], [(0, 2), (1, 3)], [(1, 2)]]
  | 5 => [[(0, 1), (2, 3)], [(0, 2), (1, 3)], [(1, 2), (0, 4)], [(2, 4)], [(1, 2), (3, 4)]]
  | 6 => [[(0, 1), (2, 3), (4, 5)], [(0, 2), (1, 3)], [(1, 2), (0, 4)], [(1, 5), (2, 4)], [(3, 5), (1, 2)], [(3, 4)]]
  | 7 => [[(0, 1), (2, 3), (4, 5)], [(0, 2), (1, 3), (4, 6)], [(1, 2), (5, 6), (0, 4)], [(1, 5), (2, 6)], [(2, 4), (3, 5)], [(1, 2), (3, 4), (5, 6)]]
  | _ => []
def stD (ps : List (Nat × Nat)) : List D := ps.map fun p => .tup [.int p.1, .int p.2]
theorem netL_ok : ∀ m, m < 8 → allOk m (netL m) = true ∧ allOk m (layL m).flatten = true := by decide +kernel
end Law

namespace Law
open PySem L2 PF VF
variable [Tab]
theorem get_of {l : List Int} {i : Nat} (h : i < l.length) : l[i]? = some (l.getD i 0) := by simp [List.getD, h]
theorem by_for (C : Addr) (o0 o1 : Option M) : ∀ (ps : List (Nat × Nat)) (l : List Int) (o3 o4 : Option M), okN l.length ps = true →
    ∃ o3' o4', forI (tTup 2 (tCons (tName 3) (tCons (tName 4) (tNil)))) (v_by_net_b1 C) (stD ps) ⟨[o0, o1, some (.lst (iM l)), o3, o4], []⟩ = .nx ⟨[o0, o1, some (.lst (iM (runN ps l))), o3', o4'], []⟩
  | [], l, o3, o4, _ => ⟨o3, o4, rfl⟩
  | p :: ps, l, o3, o4, h => by
    obtain ⟨h1, h2, h3⟩ := okN_cons h
    obtain ⟨o3', o4', e⟩ := by_for C o0 o1 ps (cxI l p) (some (.val (.int p.1))) (some (.val (.int p.2))) (by rw [cxI_len]; exact h3)
    refine ⟨o3', o4', ?_⟩
    have e2 : runN (p :: ps) l = runN ps (cxI l p) := rfl
    rw [e2, ← e]
    have g1 := get_of (l := l) (i := p.1) (by omega)
    have g2 := get_of (l := l) (i := p.2) h2
    have c1 : (0 : Int) ≤ (p.1 : Int) := by omega
    have c2 : (p.1 : Int) < (p.2 : Int) := by omega
    have c3 : (p.2 : Int) < (l.length : Int) := by omega
    have c4 : p.1 < l.length := by omega
    have ed : stD (p :: ps) = .tup [.int p.1, .int p.2] :: stD ps := rfl
    have ex : cxI l p = if l.getD p.2 0 < l.getD p.1 0 then (l.set p.1 (l.getD p.2 0)).set p.2 (l.getD p.1 0) else l := rfl
    rw [ed, ex]
    generalize stD ps = ds at *
    generalize l.getD p.1 0 = a at *
    generalize l.getD p.2 0 = b at *
    clear e ex e2
    have body : ∀ l2, (if b < a then (l.set p.1 b).set p.2 a else l) = l2 → v_by_net_b1 C ⟨[o0, o1, some (.lst (iM l)), some (.val (.int p.1)), some (.val (.int p.2))], []⟩ = .nx ⟨[o0, o1, some (.lst (iM l2)), some (.val (.int p.1)), some (.val (.int p.2))], []⟩ := by
      rintro l2 rfl
      unfold v_by_net_b1
      have ea : l[p.1] = a := (List.getElem?_eq_some_iff.mp g1).2
      have eb : l[p.2] = b := (List.getElem?_eq_some_iff.mp g2).2
      by_cases c : b < a
      · simp [c, c1, c2, c3, c4, h2, ea, eb]
      · simp [c, c1, c2, c3, c4, h2, ea, eb]
    have := body _ rfl
    rw [forI_cons (e1 := ⟨[o0, o1, some (.lst (iM l)), some (.val (.int p.1)), some (.val (.int p.2))], []⟩) _ _ _ (by simp), this, turnV_nx]
theorem put_two {l : List Int} {i j : Nat} {a b : Int} (h1 : i < j) (h2 : j < l.length) : (l.set i b).set j a = l.take i ++ [b] ++ (l.drop (i + 1)).take (j - (i + 1)) ++ [a] ++ l.drop (j + 1) := by
  rw [List.set_eq_take_append_cons_drop (l := l.set i b), if_pos (by simpa using h2), List.take_set, List.drop_set_of_lt (by omega), List.set_eq_take_append_cons_drop (l := l.take j), if_pos (by simp; omega), List.take_take, Nat.min_eq_left (by omega), List.drop_take]
  simp
theorem V_by_net_eq (C : Addr) {n : Nat} {l : List Int} {ps : List (Nat × Nat)} (h : allOk n ps = true) (hl : l.length = n) (hn : n < 1000) :
    ∃ os, V_by_net C [.val (.lst (l.map D.int)), .val (.tup (stD ps))] = .ok (.val (.tup ((isort l).map D.int))) os := by
  have hz := zero_one h hl
  have h1 : okN l.length ps = true := by rw [hl]; exact (Bool.and_eq_true _ _ ▸ h).1
  obtain ⟨o3, o4, e⟩ := by_for C (some (.val (.lst (l.map D.int)))) (some (.val (.tup (stD ps)))) ps l none none h1
  rw [hz] at e
  refine ⟨[some (.val (.lst (l.map D.int))), some (.val (.tup (stD ps)))], ?_⟩
  unfold V_by_net v_by_net
  simp [e]
theorem done_body (o1 : Option M) {l : List Int} {p : Nat × Nat} (h1 : p.1 < p.2) (h2 : p.2 < l.length) (hn : l.length < 1000) : v__law_done_b1 ⟨[some (.val (.lst (l.map D.int))), o1, some (.val (.int p.1)), some (.val (.int p.2))], []⟩ = .nx ⟨[some (.val (.lst ((cxI l p).map D.int))), o1, some (.val (.int p.1)), some (.val (.int p.2))], []⟩ := by
  have g1 := get_of (l := l) (i := p.1) (by omega)
  have g2 := get_of (l := l) (i := p.2) h2
  have ex : cxI l p = if l.getD p.2 0 < l.getD p.1 0 then (l.set p.1 (l.getD p.2 0)).set p.2 (l.getD p.1 0) else l := rfl
  rw [ex]
  generalize l.getD p.1 0 = a at *
  generalize l.getD p.2 0 = b at *
  have ea : l[p.1] = a := (List.getElem?_eq_some_iff.mp g1).2
  have eb : l[p.2] = b := (List.getElem?_eq_some_iff.mp g2).2
  have c4 : p.1 < l.length := by omega
  unfold v__law_done_b1
  by_cases c : b < a
  · have k1 := cutD_to (l.map D.int) p.1
    have k2 := cutD_nat (l.map D.int) (p.1 + 1) p.2 (by omega)
    have k3 := cutD_from (l.map D.int) (p.2 + 1)
    have k4 : ((p.1 : Int) + 1) = ((p.1 + 1 : Nat) : Int) := by omega
    have k5 : ((p.2 : Int) + 1) = ((p.2 + 1 : Nat) : Int) := by omega
    have e := put_two (l := l) (a := a) (b := b) h1 h2
    rw [if_pos c, e]
    rw [← k4] at k2
    rw [← k5] at k3
    rw [← List.map_take] at k1
    rw [← List.map_drop, ← List.map_take] at k2
    rw [← List.map_drop] at k3
    have n1 : (l.take p.1).length ≤ 1000 := by simp; omega
    have n2 : ((l.drop (p.1 + 1)).take (p.2 - (p.1 + 1))).length ≤ 1000 := by simp; omega
    have n3 : (l.drop (p.2 + 1)).length ≤ 1000 := by simp; omega
    generalize (l.drop (p.1 + 1)).take (p.2 - (p.1 + 1)) = C2 at *
    generalize l.drop (p.2 + 1) = C3 at *
    generalize l.take p.1 = C1 at *
    simp (disch := (simp only [List.length_append, List.length_cons, List.length_nil, List.length_map]; omega)) [c, c4, h2, ea, eb, k1, k2, k3, gAdd_lst]
  · simp [c, c4, h2, ea, eb]
theorem done_for (o1 : Option M) : ∀ (ps : List (Nat × Nat)) (l : List Int) (o3 o4 : Option M), okN l.length ps = true → l.length < 1000 →
    ∃ o3' o4', forI (tTup 2 (tCons (tName 2) (tCons (tName 3) (tNil)))) v__law_done_b1 (stD ps) ⟨[some (.val (.lst (l.map D.int))), o1, o3, o4], []⟩ = .nx ⟨[some (.val (.lst ((runN ps l).map D.int))), o1, o3', o4'], []⟩
  | [], l, o3, o4, _, _ => ⟨o3, o4, rfl⟩
  | p :: ps, l, o3, o4, h, hn => by
    obtain ⟨h1, h2, h3⟩ := okN_cons h
    obtain ⟨o3', o4', e⟩ := done_for o1 ps (cxI l p) (some (.val (.int p.1))) (some (.val (.int p.2))) (by rw [cxI_len]; exact h3) (by rw [cxI_len]; exact hn)
    refine ⟨o3', o4', ?_⟩
    have e2 : runN (p :: ps) l = runN ps (cxI l p) := rfl
    have ed : stD (p :: ps) = .tup [.int p.1, .int p.2] :: stD ps := rfl
    rw [e2, ← e, ed, forI_cons (e1 := ⟨[some (.val (.lst (l.map D.int))), o1, some (.val (.int p.1)), some (.val (.int p.2))], []⟩) _ _ _ (by simp), done_body o1 h1 h2 hn, turnV_nx]
theorem V_done_eq {n : Nat} {l : List Int} {ps : List (Nat × Nat)} (h : allOk n ps = true) (hl : l.length = n) (hn : n < 1000) (d : D) (hd : itemsM (.val d) = some (stD ps)) :
    ∃ os, V__law_done [.val (.lst (l.map D.int)), .val d] = .ok (.val (.lst ((isort l).map D.int))) os := by
  have hz := zero_one h hl
  have h1 : okN l.length ps = true := by rw [hl]; exact (Bool.and_eq_true _ _ ▸ h).1
  obtain ⟨o3, o4, e⟩ := done_for (some (.val d)) ps l none none h1 (by omega)
  rw [hz] at e
  refine ⟨[some (.val (.lst ((isort l).map D.int))), some (.val d)], ?_⟩
  unfold V__law_done v__law_done
  simp [e, hd]
/-- places beyond -/
theorem V_by_far (C : Addr) (l : List Int) (m : Int) (hm : m = l.length) : ∃ os, V_by_net C [.val (.lst (l.map D.int)), .val (.tup [.tup [.int 0, .int m]])] = .ex C os := by
  subst hm
  refine ⟨[some (.val (.lst (l.map D.int))), some (.val (.tup [.tup [.int 0, .int l.length]]))], ?_⟩
  unfold V_by_net v_by_net v_by_net_b1
  simp [forI, vTst_eq]
theorem V_by_back (C : Addr) (l : List Int) : ∃ os, V_by_net C [.val (.lst (l.map D.int)), .val (.tup [.tup [.int 1, .int 0]])] = .ex C os := by
  refine ⟨[some (.val (.lst (l.map D.int))), some (.val (.tup [.tup [.int 1, .int 0]]))], ?_⟩
  unfold V_by_net v_by_net v_by_net_b1
  simp [forI, vTst_eq]
end Law

namespace Law
open PySem L2 PF VF
variable [Tab]
theorem V_done_run {l : List Int} {ps : List (Nat × Nat)} (h1 : okN l.length ps = true) (hn : l.length < 1000) (d : D) (hd : itemsM (.val d) = some (stD ps)) :
    ∃ os, V__law_done [.val (.lst (l.map D.int)), .val d] = .ok (.val (.lst ((runN ps l).map D.int))) os := by
  obtain ⟨o3, o4, e⟩ := done_for (some (.val d)) ps l none none h1 hn
  refine ⟨[some (.val (.lst ((runN ps l).map D.int))), some (.val d)], ?_⟩
  unfold V__law_done v__law_done
  simp [e, hd]
theorem V_by_o (C : Addr) {l : List Int} {ps : List (Nat × Nat)} (h1 : okN l.length ps = true) :
    V_by_net_o C [.lst (iM l), .val (.tup (stD ps))] = .ok (.val (.tup ((runN ps l).map D.int))) [some (.lst (iM l)), some (.val (.tup (stD ps)))] := by
  obtain ⟨o3, o4, e⟩ := by_for C (some (.lst (iM l))) (some (.val (.tup (stD ps)))) ps l none none h1
  have eb : v_by_net_o_b1 C = v_by_net_b1 C := rfl
  unfold V_by_net_o v_by_net_o
  rw [eb]
  simp [e]
/-! ### rows of noughts and ones -/
def bitRow : Nat → Nat → List Int
  | 0, _ => []
  | n + 1, k => ((k % 2 : Nat) : Int) :: bitRow n (k / 2)
theorem bitRow_len : ∀ n k, (bitRow n k).length = n
  | 0, _ => rfl
  | n + 1, k => by simp [bitRow, bitRow_len n]
theorem look_in (C : Addr) (V1 V2 : VN) (o0 o1 o2 : Option M) : ∀ (n : Nat) (a : Int) (acc : List Int) (r : Nat) (o5 : Option M), acc.length + n < 1000 →
    ∃ r' o5', forI (tName 5) (v_look_net_b2 C V1 V2) (rgD a n) ⟨[o0, o1, o2, some (.lst (iM acc)), some (.val (.int (r : Int))), o5], []⟩ = .nx ⟨[o0, o1, o2, some (.lst (iM (acc ++ bitRow n r))), some (.val (.int r')), o5'], []⟩
  | 0, a, acc, r, o5, h => ⟨r, o5, by simp [bitRow]; rfl⟩
  | n + 1, a, acc, r, o5, h => by
    obtain ⟨r', o5', e⟩ := look_in C V1 V2 o0 o1 o2 n (a + 1) (acc ++ [((r % 2 : Nat) : Int)]) (r / 2) (some (.val (.int a))) (by simp; omega)
    refine ⟨r', o5', ?_⟩
    have b : v_look_net_b2 C V1 V2 ⟨[o0, o1, o2, some (.lst (iM acc)), some (.val (.int (r : Int))), some (.val (.int a))], []⟩ = .nx ⟨[o0, o1, o2, some (.lst (iM (acc ++ [((r % 2 : Nat) : Int)]))), some (.val (.int ((r / 2 : Nat) : Int))), some (.val (.int a))], []⟩ := by
      have q : acc.length < 1000000 := by omega
      unfold v_look_net_b2
      simp [q, gMod, gFdiv, gIc]
    rw [rgD_cons, forI_name]
    simp only [put_eq, List.set_cons_succ, List.set_cons_zero]
    rw [b, turnV_nx, e]
    simp [bitRow]
/-- a loop that may raise -/
theorem for_may {i : Nat} {b : VS} {C : Addr} (P : Nat → Bool) (R : VF.Env → Prop) : ∀ (n a : Nat) (e : VF.Env), R e → (∀ k e, k < a + n → R e → (P k = true ∧ ∃ e2, b (e.put i (some (.val (.int (k : Int))))) = .nx e2 ∧ R e2) ∨ (P k = false ∧ ∃ e2, b (e.put i (some (.val (.int (k : Int))))) = .ex C e2 ∧ R e2)) →
    ((∀ k, a ≤ k → k < a + n → P k = true) ∧ ∃ e', forI (tName i) b (rgD (a : Int) n) e = .nx e' ∧ R e') ∨ ((∃ k, a ≤ k ∧ k < a + n ∧ P k = false) ∧ ∃ e', forI (tName i) b (rgD (a : Int) n) e = .ex C e' ∧ R e')
  | 0, a, e, h, hs => .inl ⟨fun k h1 h2 => by omega, e, rfl, h⟩
  | n + 1, a, e, h, hs => by
    rw [rgD_cons, forI_name]
    rcases hs a e (by omega) h with ⟨c, e2, q1, q2⟩ | ⟨c, e2, q1, q2⟩
    · rw [q1, turnV_nx, show ((a : Int) + 1) = ((a + 1 : Nat) : Int) by omega]
      rcases for_may P R n (a + 1) e2 q2 (fun k e hk hr => hs k e (by omega) hr) with ⟨c2, ih⟩ | ⟨⟨k, k1, k2, k3⟩, ih⟩
      · refine .inl ⟨fun k k1 k2 => ?_, ih⟩
        by_cases e : k = a
        · rw [e]; exact c
        · exact c2 k (by omega) (by omega)
      · exact .inr ⟨⟨k, by omega, by omega, k3⟩, ih⟩
    · rw [q1, turnV_ex]
      exact .inr ⟨⟨a, by omega, by omega, c⟩, e2, rfl, q2⟩
theorem V_power_eq : ∀ m : Nat, m < 8 → V_power [.val (.int (m : Int))] = .ok (.val (.int ((2 ^ m : Nat) : Int))) [some (.val (.int (m : Int)))]
  | 0, _ => by kernel_rfl
  | 1, _ => by kernel_rfl
  | 2, _ => by kernel_rfl
  | 3, _ => by kernel_rfl
  | 4, _ => by kernel_rfl
  | 5, _ => by kernel_rfl
  | 6, _ => by kernel_rfl
  | 7, _ => by kernel_rfl
  | m + 8, h => by omega
def goodN (m : Nat) (ps : List (Nat × Nat)) : Bool := (List.range (2 ^ m)).all fun k => decide (runN ps (bitRow m k) = isort (bitRow m k))
theorem map_inj_int {xs ys : List Int} : eqqs (xs.map D.int) (ys.map D.int) = decide (xs = ys) := by simp
theorem row_txt : ∀ k : Nat, k < 128 → ("row " : Str).length + (toString (k : Int) : Str).length ≤ sizeLine ∧ (k : Int).natAbs.log2 < 1920 := by decide +kernel
theorem V_look_eq (C : Addr) {m : Nat} {ps : List (Nat × Nat)} (hm : m < 8) (hp : okN m ps = true) :
    (goodN m ps = true ∧ ∃ os, V_look_net C [.val (.tup (stD ps)), .val (.int (m : Int))] = .ok (.val .non) os) ∨ (goodN m ps = false ∧ ∃ os, V_look_net C [.val (.tup (stD ps)), .val (.int (m : Int))] = .ex C os) := by
  have hm2 : 2 ^ m ≤ 2 ^ 7 := Nat.pow_le_pow_right (by decide) (by omega)
  have hm2 : 2 ^ m ≤ 128 := by omega
  have key := for_may (i := 2) (b := v_look_net_b1 C V_power (V_by_net_o C)) (C := C) (fun k => decide (runN ps (bitRow m k) = isort (bitRow m k))) (fun e => ∃ o2 o3 o4 o5, e = ⟨[some (.val (.tup (stD ps))), some (.val (.int (m : Int))), o2, o3, o4, o5], []⟩) (2 ^ m) 0 ⟨[some (.val (.tup (stD ps))), some (.val (.int (m : Int))), none, none, none, none], []⟩ ⟨_, _, _, _, rfl⟩ (by
    rintro k e hk ⟨o2, o3, o4, o5, rfl⟩
    obtain ⟨r', o5', e1⟩ := look_in C V_power (V_by_net_o C) (some (.val (.tup (stD ps)))) (some (.val (.int (m : Int)))) (some (.val (.int (k : Int)))) m 0 [] k o5 (by simp; omega)
    rw [List.nil_append] at e1
    have hl := bitRow_len m k
    generalize bitRow m k = B at *
    have e2 := V_by_o C (l := B) (ps := ps) (by rw [hl]; exact hp)
    have hr : rngOk (m : Int) = true := rngOk_of (by omega) (by omega)
    obtain ⟨t1, t2⟩ := row_txt k (by omega)
    have hs : gStr [D.int (k : Int)] [] = some (.str (toString (k : Int)), []) := by unfold gStr; simp only [if_pos t2]
    have hs2 : gAdd false (.str "row ") (.str (toString (k : Int))) [] = some (.str ("row " ++ (toString (k : Int) : Str)), []) := by unfold gAdd; simp only [if_pos t1]
    generalize (toString (k : Int) : Str) = t at *
    unfold v_look_net_b1
    have en : iM ([] : List Int) = [] := rfl
    rw [en] at e1
    by_cases c : runN ps B = isort B
    · refine .inl ⟨by simpa using c, ?_⟩
      refine ⟨⟨[some (.val (.tup (stD ps))), some (.val (.int (m : Int))), some (.val (.int (k : Int))), some (.lst (iM B)), some (.val (.int r')), o5'], []⟩, ?_, ⟨_, _, _, _, rfl⟩⟩
      simp [hr, e1, e2, c]
    · refine .inr ⟨by simpa using c, ?_⟩
      refine ⟨⟨[some (.val (.tup (stD ps))), some (.val (.int (m : Int))), some (.val (.int (k : Int))), some (.lst (iM B)), some (.val (.int r')), o5'], []⟩, ?_, ⟨_, _, _, _, rfl⟩⟩
      simp [hr, e1, e2, c, hs, hs2])
  have hr : rngOk ((2 ^ m : Nat) : Int) = true := by
    have q1 : ((2 ^ m : Nat) : Int) ≤ ((128 : Nat) : Int) := Int.ofNat_le.mpr hm2
    have q0 : (0 : Int) ≤ ((2 ^ m : Nat) : Int) := Int.natCast_nonneg _
    generalize ((2 ^ m : Nat) : Int) = z at *
    exact rngOk_of (by omega) (by omega)
  have ep := V_power_eq m hm
  have en : (((2 ^ m : Nat) : Int)).toNat = 2 ^ m := Int.toNat_natCast _
  have go : goodN m ps = decide (∀ k, k < 2 ^ m → runN ps (bitRow m k) = isort (bitRow m k)) := by
    rw [Bool.eq_iff_iff]
    simp [goodN]
  rw [go]
  generalize 2 ^ m = N at *
  generalize ((N : Nat) : Int) = NI at *
  rcases key with ⟨c, e', h1, o2, o3, o4, o5, rfl⟩ | ⟨⟨k, k1, k2, k3⟩, e', h1, o2, o3, o4, o5, rfl⟩
  · refine .inl ⟨by simpa using fun k hk => of_decide_eq_true (c k (by omega) (by omega)), [some (.val (.tup (stD ps))), some (.val (.int (m : Int)))], ?_⟩
    unfold V_look_net v_look_net
    have h1 : forI (tName 2) (v_look_net_b1 C V_power (V_by_net_o C)) (rgD 0 N) _ = _ := h1
    simp [ep, hr, en, h1]
  · refine .inr ⟨by
      simp only [decide_eq_false_iff_not]
      exact fun q => of_decide_eq_false k3 (q k (by omega)), [some (.val (.tup (stD ps))), some (.val (.int (m : Int)))], ?_⟩
    unfold V_look_net v_look_net
    have h1 : forI (tName 2) (v_look_net_b1 C V_power (V_by_net_o C)) (rgD 0 N) _ = _ := h1
    simp [ep, hr, en, h1]
end Law

namespace Law
open PySem L2 PF VF
variable [Tab]
def rowsL : Nat → List (List Int)
  | 0 => [[]]
  | n + 1 => (rowsL n).map (fun r => r ++ [0]) ++ (rowsL n).map (fun r => r ++ [1])
theorem V_rows_eq : ∀ m : Nat, m < 8 → V__law_rows [.val (.int (m : Int))] = .ok (.val (.lst (lstD (rowsL m)))) [some (.val (.int (m : Int)))]
  | 0, _ => by kernel_rfl
  | 1, _ => by kernel_rfl
  | 2, _ => by kernel_rfl
  | 3, _ => by kernel_rfl
  | 4, _ => by kernel_rfl
  | 5, _ => by kernel_rfl
  | 6, _ => by kernel_rfl
  | 7, _ => by kernel_rfl
  | m + 8, h => by omega
def rowsOk (m : Nat) : Bool := ((rowsL m).all fun r => decide (r.length = m) && (List.range (2 ^ m)).any fun k => decide (r = bitRow m k)) && (List.range (2 ^ m)).all fun k => (rowsL m).any fun r => decide (r = bitRow m k)
theorem rowsOk_all : ∀ m, m < 8 → rowsOk m = true := by decide +kernel
theorem rows_len : ∀ m, (rowsL m).length = 2 ^ m
  | 0 => rfl
  | m + 1 => by simp [rowsL, rows_len m]; omega
theorem rows_facts {m : Nat} (h : m < 8) : (∀ r ∈ rowsL m, r.length = m ∧ ∃ k, k < 2 ^ m ∧ r = bitRow m k) ∧ ∀ k, k < 2 ^ m → bitRow m k ∈ rowsL m := by
  have := rowsOk_all m h
  simp only [rowsOk, Bool.and_eq_true, List.all_eq_true, List.any_eq_true, decide_eq_true_eq, List.mem_range] at this
  refine ⟨fun r hr => this.1 r hr, fun k hk => ?_⟩
  obtain ⟨r, h1, h2⟩ := this.2 k hk
  rw [← h2]; exact h1
theorem good_rows {m : Nat} (h : m < 8) (ps : List (Nat × Nat)) : goodN m ps = true ↔ ∀ r ∈ rowsL m, runN ps r = isort r := by
  obtain ⟨h1, h2⟩ := rows_facts h
  simp only [goodN, List.all_eq_true, List.mem_range, decide_eq_true_eq]
  constructor
  · intro q r hr
    obtain ⟨_, k, hk, rfl⟩ := h1 r hr
    exact q k hk
  · intro q k hk
    exact q _ (h2 k hk)
def badD (ps : List (Nat × Nat)) (d : D) : Bool := match d with
  | .lst xs => match intsOf xs with
    | some ns => !decide (runN ps ns = isort ns)
    | none => false
  | _ => false
theorem fails_eq {o : List (Option M)} {m s : Nat} {ps : List (Nat × Nat)} (hL : o.length = 16) (hm : m < 8) (h2 : o[2]? = some (some (.val (.int (m : Int))))) (hs : o[s]? = some (some (.val (.tup (stD ps))))) (h15 : s ≠ 15) (hp : okN m ps = true) :
    vOp gNe (vLc [15] (viSeq (vCallV V__law_rows (vCons (vVar 2) (vNil)))) (tName 15) (vTst (vOp gNe (vCallV V__law_done (vCons (vVar 15) (vCons (vVar s) (vNil)))) (vCB (gSortA false) (vCons (vVar 15) (vNil))))) (vVar 15)) (vLst (vNil)) ⟨o, []⟩ = .ok (.val (.bl (!goodN m ps))) ⟨o, []⟩ := by
  obtain ⟨f1, f2⟩ := rows_facts hm
  have fl : (rowsL m).length ≤ 128 := by rw [rows_len]; exact Nat.pow_le_pow_right (by decide) (by omega : m ≤ 7)
  have lc : lcP (tName 15) (vTst (vOp gNe (vCallV V__law_done (vCons (vVar 15) (vCons (vVar s) (vNil)))) (vCB (gSortA false) (vCons (vVar 15) (vNil))))) (vVar 15) ⟨o.set 15 none, []⟩ (lstD (rowsL m)) [] = some ((lstD ((rowsL m).filter fun r => !decide (runN ps r = isort r))).map M.val) := by
    rw [lcP_filter (badD ps) id]
    · congr 2
      simp [lstD, List.filter_map, Function.comp_def, badD, intsOf_map]
    · intro d hd
      obtain ⟨q, hq, rfl⟩ := lstD_mem hd
      obtain ⟨ql, _⟩ := f1 q hq
      obtain ⟨os, e⟩ := V_done_run (l := q) (ps := ps) (by rw [ql]; exact hp) (by omega) (.tup (stD ps)) rfl
      have g15 : ∀ x, (o.set 15 x)[15]? = some x := fun x => kself hL (by decide)
      have gs : ∀ x, (o.set 15 x)[s]? = some (some (.val (.tup (stD ps)))) := fun x => kset hs (by omega)
      refine ⟨⟨o.set 15 (some (.val (.lst (q.map D.int)))), []⟩, ?_⟩
      simp [badD, intsOf_map, g15, gs, e]
    · intro d hd _
      have g15 : ∀ x, (o.set 15 x)[15]? = some x := fun x => kself hL (by decide)
      exact ⟨⟨o.set 15 (some (.val d)), []⟩, by simp [g15]⟩
    · simp [lstD]; omega
  have er := V_rows_eq m hm
  have gr := good_rows hm ps
  by_cases c : goodN m ps = true
  · have e0 : ((rowsL m).filter fun r => !decide (runN ps r = isort r)) = [] := by
      rw [List.filter_eq_nil_iff]
      intro r hr
      simp [gr.mp c r hr]
    rw [e0] at lc
    have lc2 : (lstD ([] : List (List Int))).map M.val = [] := rfl
    rw [lc2] at lc
    rw [c]
    simp [h2, er, lc, frzM]
  · have c : goodN m ps = false := by simpa using c
    obtain ⟨r, rs, e0⟩ : ∃ r rs, ((rowsL m).filter fun r => !decide (runN ps r = isort r)) = r :: rs := by
      cases hh : ((rowsL m).filter fun r => !decide (runN ps r = isort r)) with
      | cons r rs => exact ⟨r, rs, rfl⟩
      | nil =>
        rw [List.filter_eq_nil_iff] at hh
        have : goodN m ps = true := gr.mpr fun r hr => by simpa using hh r hr
        rw [c] at this; cases this
    rw [e0] at lc
    rw [c]
    simp [h2, er, lc]
    show eqqs (.lst (r.map D.int) :: lstD rs) [] = false
    simp
end Law

namespace Law
open PySem L2 PF VF
variable [Tab]
theorem V_net_eq : ∀ m : Nat, m < 8 → V_net [.val (.int (m : Int))] = .ok (.val (.tup (stD (netL m)))) [some (.val (.int (m : Int)))]
  | 0, _ => by kernel_rfl
  | 1, _ => by kernel_rfl
  | 2, _ => by kernel_rfl
  | 3, _ => by kernel_rfl
  | 4, _ => by kernel_rfl
  | 5, _ => by kernel_rfl
  | 6, _ => by kernel_rfl
  | 7, _ => by kernel_rfl
  | m + 8, h => by omega
def layD (m : Nat) : List D := (layL m).map fun ps => .tup (stD ps)
theorem V_layers_eq : ∀ m : Nat, m < 8 → V_layers [.val (.tup (stD (netL m))), .val (.int (m : Int))] = .ok (.val (.tup (layD m))) [some (.val (.tup (stD (netL m)))), some (.val (.int (m : Int)))]
  | 0, _ => by kernel_rfl
  | 1, _ => by kernel_rfl
  | 2, _ => by kernel_rfl
  | 3, _ => by kernel_rfl
  | 4, _ => by kernel_rfl
  | 5, _ => by kernel_rfl
  | 6, _ => by kernel_rfl
  | 7, _ => by kernel_rfl
  | m + 8, h => by omega
end Law

namespace Law
open PySem L2 PF VF
variable [Tab]
def srtL : Nat → List (Nat × Nat)
  | 0 => []
  | 1 => []
  | 2 => [(0, 1)]
  | 3 => [(0, 1), (0, 2), (1, 2)]
  | 4 => [(0, 1), (0, 2), (1, 2), (1, 3), (2, 3)]
  | 5 => [(0, 1), (0, 2), (0, 4), (1, 2), (1, 2), (1, 3), (2, 3), (2, 4), (3, 4)]
  | 6 => [(0, 1), (0, 2), (0, 4), (1, 2), (1, 2), (1, 3), (1, 5), (2, 3), (2, 4), (3, 4), (3, 5), (4, 5)]
  | 7 => [(0, 1), (0, 2), (0, 4), (1, 2), (1, 2), (1, 3), (1, 5), (2, 3), (2, 4), (2, 6), (3, 4), (3, 5), (4, 5), (4, 6), (5, 6), (5, 6)]
  | _ => []
def depL : Nat → List Int
  | 0 => []
  | 1 => [0]
  | 2 => [1, 1]
  | 3 => [2, 3, 3]
  | 4 => [2, 3, 3, 2]
  | 5 => [3, 5, 5, 5, 5]
  | 6 => [3, 5, 5, 6, 6, 5]
  | 7 => [3, 6, 6, 6, 6, 6, 6]
  | _ => []
def oOf : Vl → List (Option M)
  | .nx e => e.o
  | _ => []
theorem list16 {o : List (Option M)} (h : o.length = 16) : ∃ x0 x1 x2 x3 x4 x5 x6 x7 x8 x9 x10 x11 x12 x13 x14 x15, o = [x0, x1, x2, x3, x4, x5, x6, x7, x8, x9, x10, x11, x12, x13, x14, x15] := by
  match o, h with
  | [x0, x1, x2, x3, x4, x5, x6, x7, x8, x9, x10, x11, x12, x13, x14, x15], _ => exact ⟨_, _, _, _, _, _, _, _, _, _, _, _, _, _, _, _, rfl⟩
/-- alike but for the slots js -/
def Al16 (js : List Nat) (o o' : List (Option M)) : Prop := o'.length = 16 ∧ ∀ j, j ∉ js → o'[j]? = o[j]?
theorem lines_k {K : PySem.W.Frag} {C : Addr} {x0 x1 x2 x3 x4 x7 x8 x9 x10 x11 x12 x13 x14 x15 : Option M} : ∀ m : Nat, m < 8 → (vFor (viSeq (vVar 5)) (tName 7) (v_law_b2 K C V__law_rounds V__law_roll V_net (V_by_net C) V__law_done V__law_rows (V_look_net C) V_layers V_power) ⟨[x0, x1, x2, x3, x4, some (.val (.tup (layD m))), some (.val (.lst [])), x7, x8, x9, x10, x11, x12, x13, x14, x15], []⟩) = .nx ⟨[x0, x1, x2, x3, x4, some (.val (.tup (layD m))), some (.val (.lst (stD (layL m).flatten))), (oOf (vFor (viSeq (vVar 5)) (tName 7) (v_law_b2 K C V__law_rounds V__law_roll V_net (V_by_net C) V__law_done V__law_rows (V_look_net C) V_layers V_power) ⟨[x0, x1, x2, x3, x4, some (.val (.tup (layD m))), some (.val (.lst [])), x7, x8, x9, x10, x11, x12, x13, x14, x15], []⟩)).getD 7 none, (oOf (vFor (viSeq (vVar 5)) (tName 7) (v_law_b2 K C V__law_rounds V__law_roll V_net (V_by_net C) V__law_done V__law_rows (V_look_net C) V_layers V_power) ⟨[x0, x1, x2, x3, x4, some (.val (.tup (layD m))), some (.val (.lst [])), x7, x8, x9, x10, x11, x12, x13, x14, x15], []⟩)).getD 8 none, (oOf (vFor (viSeq (vVar 5)) (tName 7) (v_law_b2 K C V__law_rounds V__law_roll V_net (V_by_net C) V__law_done V__law_rows (V_look_net C) V_layers V_power) ⟨[x0, x1, x2, x3, x4, some (.val (.tup (layD m))), some (.val (.lst [])), x7, x8, x9, x10, x11, x12, x13, x14, x15], []⟩)).getD 9 none, (oOf (vFor (viSeq (vVar 5)) (tName 7) (v_law_b2 K C V__law_rounds V__law_roll V_net (V_by_net C) V__law_done V__law_rows (V_look_net C) V_layers V_power) ⟨[x0, x1, x2, x3, x4, some (.val (.tup (layD m))), some (.val (.lst [])), x7, x8, x9, x10, x11, x12, x13, x14, x15], []⟩)).getD 10 none, x11, (oOf (vFor (viSeq (vVar 5)) (tName 7) (v_law_b2 K C V__law_rounds V__law_roll V_net (V_by_net C) V__law_done V__law_rows (V_look_net C) V_layers V_power) ⟨[x0, x1, x2, x3, x4, some (.val (.tup (layD m))), some (.val (.lst [])), x7, x8, x9, x10, x11, x12, x13, x14, x15], []⟩)).getD 12 none, x13, x14, x15], []⟩
  | 0, _ => by kernel_rfl
  | 1, _ => by kernel_rfl
  | 2, _ => by kernel_rfl
  | 3, _ => by kernel_rfl
  | 4, _ => by kernel_rfl
  | 5, _ => by kernel_rfl
  | 6, _ => by kernel_rfl
  | 7, _ => by kernel_rfl
  | m + 8, h => by omega
theorem lines_eq {K : PySem.W.Frag} {C : Addr} {o : List (Option M)} {m : Nat} (hL : o.length = 16) (hm : m < 8) (k5 : o[5]? = some (some (.val (.tup (layD m))))) (k6 : o[6]? = some (some (.val (.lst [])))) :
    ∃ o', Al16 [6, 7, 8, 9, 10, 12] o o' ∧ o'[6]? = some (some (.val (.lst (stD (layL m).flatten)))) ∧ vFor (viSeq (vVar 5)) (tName 7) (v_law_b2 K C V__law_rounds V__law_roll V_net (V_by_net C) V__law_done V__law_rows (V_look_net C) V_layers V_power) ⟨o, []⟩ = .nx ⟨o', []⟩ := by
  obtain ⟨x0, x1, x2, x3, x4, x5, x6, x7, x8, x9, x10, x11, x12, x13, x14, x15, rfl⟩ := list16 hL
  have e5 : x5 = some (.val (.tup (layD m))) := by injection k5
  have e6 : x6 = some (.val (.lst [])) := by injection k6
  subst e5 e6
  refine ⟨_, ⟨?_, ?_⟩, ?_, lines_k m hm⟩
  · rfl
  · exact fun j hj => match j, hj with
      | 0, hj => rfl
      | 1, hj => rfl
      | 2, hj => rfl
      | 3, hj => rfl
      | 4, hj => rfl
      | 5, hj => rfl
      | 6, hj => absurd (by decide) hj
      | 7, hj => absurd (by decide) hj
      | 8, hj => absurd (by decide) hj
      | 9, hj => absurd (by decide) hj
      | 10, hj => absurd (by decide) hj
      | 11, hj => rfl
      | 12, hj => absurd (by decide) hj
      | 13, hj => rfl
      | 14, hj => rfl
      | 15, hj => rfl
      | n + 16, _ => rfl
  · rfl
theorem deps_k {K : PySem.W.Frag} {C : Addr} {x0 x1 x4 x5 x6 x7 x8 x9 x10 x12 x13 x14 x15 : Option M} : ∀ m : Nat, m < 8 → (vFor (viSeq (vVar 3)) (tTup 2 (tCons (tName 9) (tCons (tName 10) (tNil)))) (v_law_b4 K C V__law_rounds V__law_roll V_net (V_by_net C) V__law_done V__law_rows (V_look_net C) V_layers V_power) ⟨[x0, x1, some (.val (.int (m : Int))), some (.val (.tup (stD (netL m)))), x4, x5, x6, x7, x8, x9, x10, some (.lst (iM (List.replicate m 0))), x12, x13, x14, x15], []⟩) = .nx ⟨[x0, x1, some (.val (.int (m : Int))), some (.val (.tup (stD (netL m)))), x4, x5, x6, x7, x8, (oOf (vFor (viSeq (vVar 3)) (tTup 2 (tCons (tName 9) (tCons (tName 10) (tNil)))) (v_law_b4 K C V__law_rounds V__law_roll V_net (V_by_net C) V__law_done V__law_rows (V_look_net C) V_layers V_power) ⟨[x0, x1, some (.val (.int (m : Int))), some (.val (.tup (stD (netL m)))), x4, x5, x6, x7, x8, x9, x10, some (.lst (iM (List.replicate m 0))), x12, x13, x14, x15], []⟩)).getD 9 none, (oOf (vFor (viSeq (vVar 3)) (tTup 2 (tCons (tName 9) (tCons (tName 10) (tNil)))) (v_law_b4 K C V__law_rounds V__law_roll V_net (V_by_net C) V__law_done V__law_rows (V_look_net C) V_layers V_power) ⟨[x0, x1, some (.val (.int (m : Int))), some (.val (.tup (stD (netL m)))), x4, x5, x6, x7, x8, x9, x10, some (.lst (iM (List.replicate m 0))), x12, x13, x14, x15], []⟩)).getD 10 none, some (.lst (iM (depL m))), x12, x13, x14, x15], []⟩
  | 0, _ => by kernel_rfl
  | 1, _ => by kernel_rfl
  | 2, _ => by kernel_rfl
  | 3, _ => by kernel_rfl
  | 4, _ => by kernel_rfl
  | 5, _ => by kernel_rfl
  | 6, _ => by kernel_rfl
  | 7, _ => by kernel_rfl
  | m + 8, h => by omega
theorem deps_eq {K : PySem.W.Frag} {C : Addr} {o : List (Option M)} {m : Nat} (hL : o.length = 16) (hm : m < 8) (k2 : o[2]? = some (some (.val (.int (m : Int))))) (k3 : o[3]? = some (some (.val (.tup (stD (netL m)))))) (k11 : o[11]? = some (some (.lst (iM (List.replicate m 0))))) :
    ∃ o', Al16 [9, 10, 11] o o' ∧ o'[11]? = some (some (.lst (iM (depL m)))) ∧ vFor (viSeq (vVar 3)) (tTup 2 (tCons (tName 9) (tCons (tName 10) (tNil)))) (v_law_b4 K C V__law_rounds V__law_roll V_net (V_by_net C) V__law_done V__law_rows (V_look_net C) V_layers V_power) ⟨o, []⟩ = .nx ⟨o', []⟩ := by
  obtain ⟨x0, x1, x2, x3, x4, x5, x6, x7, x8, x9, x10, x11, x12, x13, x14, x15, rfl⟩ := list16 hL
  have e2 : x2 = some (.val (.int (m : Int))) := by injection k2
  have e3 : x3 = some (.val (.tup (stD (netL m)))) := by injection k3
  have e11 : x11 = some (.lst (iM (List.replicate m 0))) := by injection k11
  subst e2 e3 e11
  refine ⟨_, ⟨?_, ?_⟩, ?_, deps_k m hm⟩
  · rfl
  · exact fun j hj => match j, hj with
      | 0, hj => rfl
      | 1, hj => rfl
      | 2, hj => rfl
      | 3, hj => rfl
      | 4, hj => rfl
      | 5, hj => rfl
      | 6, hj => rfl
      | 7, hj => rfl
      | 8, hj => rfl
      | 9, hj => absurd (by decide) hj
      | 10, hj => absurd (by decide) hj
      | 11, hj => absurd (by decide) hj
      | 12, hj => rfl
      | 13, hj => rfl
      | 14, hj => rfl
      | 15, hj => rfl
      | n + 16, _ => rfl
  · rfl
theorem srt_1 : ∀ m : Nat, m < 8 → gSortA false [.lst (stD (layL m).flatten)] [] = some (.lst (stD (srtL m)), [])
  | 0, _ => by kernel_rfl
  | 1, _ => by kernel_rfl
  | 2, _ => by kernel_rfl
  | 3, _ => by kernel_rfl
  | 4, _ => by kernel_rfl
  | 5, _ => by kernel_rfl
  | 6, _ => by kernel_rfl
  | 7, _ => by kernel_rfl
  | m + 8, h => by omega
theorem srt_2 : ∀ m : Nat, m < 8 → gSortA false [.tup (stD (netL m))] [] = some (.lst (stD (srtL m)), [])
  | 0, _ => by kernel_rfl
  | 1, _ => by kernel_rfl
  | 2, _ => by kernel_rfl
  | 3, _ => by kernel_rfl
  | 4, _ => by kernel_rfl
  | 5, _ => by kernel_rfl
  | 6, _ => by kernel_rfl
  | 7, _ => by kernel_rfl
  | m + 8, h => by omega
theorem srt_3 : ∀ m : Nat, m < 8 → gNe (.lst (stD (srtL m))) (.lst (stD (srtL m))) [] = some (.bl false, [])
  | 0, _ => by kernel_rfl
  | 1, _ => by kernel_rfl
  | 2, _ => by kernel_rfl
  | 3, _ => by kernel_rfl
  | 4, _ => by kernel_rfl
  | 5, _ => by kernel_rfl
  | 6, _ => by kernel_rfl
  | 7, _ => by kernel_rfl
  | m + 8, h => by omega
theorem dep_1 : ∀ m : Nat, m < 8 → gMax [.lst ((depL m ++ [0]).map D.int)] [] = some (.int (layD m).length, [])
  | 0, _ => by kernel_rfl
  | 1, _ => by kernel_rfl
  | 2, _ => by kernel_rfl
  | 3, _ => by kernel_rfl
  | 4, _ => by kernel_rfl
  | 5, _ => by kernel_rfl
  | 6, _ => by kernel_rfl
  | 7, _ => by kernel_rfl
  | m + 8, h => by omega
theorem net_1 : ∀ m : Nat, m < 8 → gNe (.tup (stD (netL m))) (.tup []) [] = some (.bl (decide (1 < m)), [])
  | 0, _ => by kernel_rfl
  | 1, _ => by kernel_rfl
  | 2, _ => by kernel_rfl
  | 3, _ => by kernel_rfl
  | 4, _ => by kernel_rfl
  | 5, _ => by kernel_rfl
  | 6, _ => by kernel_rfl
  | 7, _ => by kernel_rfl
  | m + 8, h => by omega
theorem net_2 : ∀ m : Nat, m < 8 → (1 < m → 0 < (netL m).length) ∧ (netL m).length ≤ 16 ∧ (depL m).length = m := by decide +kernel
end Law

namespace Law
open PySem L2 PF VF
variable [Tab]
theorem stD_len (ps : List (Nat × Nat)) : (stD ps).length = ps.length := by simp [stD]
theorem okN_less {n : Nat} {ps : List (Nat × Nat)} (h : okN n ps = true) (k : Nat) : okN n (ps.take k ++ ps.drop (k + 1)) = true := by
  unfold okN at h ⊢
  rw [List.all_eq_true] at h ⊢
  intro p hp
  rcases List.mem_append.mp hp with q | q
  · exact h p (List.mem_of_mem_take q)
  · exact h p (List.mem_of_mem_drop q)
theorem par_step {o : List (Option M)} {VL : VN} {st ly mm : D} {os : List (Option M)} (k2 : o[2]? = some (some (.val mm))) (k3 : o[3]? = some (some (.val st))) (ey : VL [.val st, .val mm] = .ok (.val ly) os) : vPar 5 6 (vCons (vCallV VL (vCons (vVar 3) (vCons (vVar 2) (vNil)))) (vCons (vLst (vNil)) (vNil))) ⟨o, []⟩ = .nx ⟨(o.set 5 (some (.val ly))).set 6 (some (.val (.lst []))), []⟩ := by simp [k2, k3, ey]
theorem dep0 {o : List (Option M)} {m : Nat} (k2 : o[2]? = some (some (.val (.int (m : Int))))) (hm : m < 8) : vAsg (vOwn (vOp (gMul false) (vLst (vCons (vC (.int 0)) (vNil))) (vVar 2))) (tName 11) ⟨o, []⟩ = .nx ⟨o.set 11 (some (.lst (iM (List.replicate m 0)))), []⟩ := by
  have e1 : vLst (vCons (vC (.int 0)) (vNil)) ⟨o, []⟩ = .ok (.val (.lst [.int 0])) ⟨o, []⟩ := by simp
  have e2 : vVar 2 ⟨o, []⟩ = .ok (.val (.int (m : Int))) ⟨o, []⟩ := by simp [k2]
  have e3 : (List.replicate m (D.int 0)).map M.val = iM (List.replicate m 0) := by simp [iM]
  rw [vAsg_eq, vOwn_eq, vOp_eq, e1, bv_ok, e2, bv_ok, liftG_val, mul1 _ _ (by omega), Option.map_some, ofM_some, bv_ok, ownM_lst, ofM_some, tv_ok, e3]
  rfl
theorem round {K : PySem.W.Frag} {C : Addr} (X : Xf K C) (o : List (Option M)) (x y z : Int) (hL : o.length = 16) (h1 : o[1]? = some (some (dM x y z))) :
    ∃ o', o'.length = 16 ∧ v_law_b1 K C V__law_rounds V__law_roll V_net (V_by_net C) V__law_done V__law_rows (V_look_net C) V_layers V_power ⟨o, []⟩ = .nx ⟨o', []⟩ := by
  have hD : ∃ a b c, o[1]? = some (some (dM a b c)) := ⟨x, y, z, h1⟩
  clear h1
  unfold v_law_b1
  obtain ⟨mi, oA, hm0, hm1, sA, eA⟩ := (Sm.refl (js := [1]) hD).roll (by decide) (n := 8) (va := vC (.int 8)) rfl (by decide) (by decide)
  obtain ⟨m, rfl⟩ : ∃ m : Nat, mi = m := ⟨mi.toNat, by omega⟩
  have hm : m < 8 := by omega
  refine seq_step ((oA).set 2 (some (.val (.int (m : Int))))) (by rw [vAsg_eq, eA]; rfl) ?_
  have L1 : ((oA).set 2 (some (.val (.int (m : Int))))).length = 16 := (klen (sA.len.trans hL))
  have D1 : ∃ a b c, ((oA).set 2 (some (.val (.int (m : Int)))))[1]? = some (some (dM a b c)) := (dset sA.di (by decide))
  have k1_2 : ((oA).set 2 (some (.val (.int (m : Int)))))[2]? = some (some (.val (.int (m : Int)))) := (kself (sA.len.trans hL) (by decide))
  generalize (oA).set 2 (some (.val (.int (m : Int)))) = o1 at L1 D1 k1_2 ⊢
  have eN := V_net_eq m hm
  obtain ⟨row, oB, hrow, hkey, sB, eB⟩ := Sm.draw (p := 1) (js := [1, 12]) (o := o1) (o' := o1) (i := 12) (f := vCall V__law_roll (wPl (pVar 1) (wTm (vC (.int 9)) (wNil)))) (va := vVar 2) (n := m) (fun _ => True) (Sm.refl D1) (by decide) (by decide) (by simp [k1_2]) (by omega) (fun d o1 hs => by
    obtain ⟨rr, o4, f1, f2, f3, f4⟩ := (hs.set (i := 12) (x := some (.val d)) (by decide) (by decide)).roll (by decide) (n := 9) (va := vC (.int 9)) rfl (by decide) (by decide)
    exact ⟨rr, o4, f4, trivial, f3⟩)
  clear hkey
  have g1 : vTup (vCons (vCallV V_net (vCons (vVar 2) (vNil))) (vCons (vLcE [12] (viRng (vCons (vVar 2) (vNil))) (tName 12) (vYes) (vCall V__law_roll (wPl (pVar 1) (wTm (vC (.int 9)) (wNil)))) frzM) (vNil))) ⟨o1, []⟩ = .ok (.val (.tup [.tup (stD (netL m)), .lst (row.map D.int)])) ⟨oB, []⟩ := by
    rw [vTup_eq, vCons_eq, show vCallV V_net (vCons (vVar 2) vNil) ⟨o1, []⟩ = .ok (.val (.tup (stD (netL m)))) ⟨o1, []⟩ by simp [k1_2, eN], bv_ok, vCons_eq, eB, bv_ok]
    simp
  refine seq_step (((oB).set 3 (some (.val (.tup (stD (netL m)))))).set 4 (some (.val (.lst (row.map D.int))))) (by rw [vAsg_eq, g1, tv_ok]; simp) ?_
  have L2 : (((oB).set 3 (some (.val (.tup (stD (netL m)))))).set 4 (some (.val (.lst (row.map D.int))))).length = 16 := (klen (klen (sB.len.trans L1)))
  have D2 : ∃ a b c, (((oB).set 3 (some (.val (.tup (stD (netL m)))))).set 4 (some (.val (.lst (row.map D.int)))))[1]? = some (some (dM a b c)) := (dset (dset sB.di (by decide)) (by decide))
  have k2_2 : (((oB).set 3 (some (.val (.tup (stD (netL m)))))).set 4 (some (.val (.lst (row.map D.int)))))[2]? = some (some (.val (.int (m : Int)))) := (kset (kset (sB.get k1_2 (by decide)) (by decide)) (by decide))
  have k2_3 : (((oB).set 3 (some (.val (.tup (stD (netL m)))))).set 4 (some (.val (.lst (row.map D.int)))))[3]? = some (some (.val (.tup (stD (netL m))))) := (kset (kself (sB.len.trans L1) (by decide)) (by decide))
  have k2_4 : (((oB).set 3 (some (.val (.tup (stD (netL m)))))).set 4 (some (.val (.lst (row.map D.int)))))[4]? = some (some (.val (.lst (row.map D.int)))) := (kself (klen (sB.len.trans L1)) (by decide))
  generalize ((oB).set 3 (some (.val (.tup (stD (netL m)))))).set 4 (some (.val (.lst (row.map D.int)))) = o2 at L2 D2 k2_2 k2_3 k2_4 ⊢
  obtain ⟨okN1, okF1⟩ := netL_ok m hm
  have okn : okN m (netL m) = true := (Bool.and_eq_true _ _ ▸ okN1).1
  obtain ⟨os1, eb⟩ := V_by_net_eq C okN1 hrow (by omega)
  obtain ⟨os2, ed⟩ := V_done_eq okN1 hrow (by omega) (.tup (stD (netL m))) rfl
  obtain ⟨os3, ef⟩ := V_done_eq okF1 hrow (by omega) (.lst (stD (layL m).flatten)) rfl
  refine seq_step o2 (by simp [k2_2, k2_3, k2_4, eb, ed]) ?_
  have fe := fails_eq (s := 3) (ps := netL m) L2 hm k2_2 k2_3 (by decide) okn
  have gd : goodN m (netL m) = true := by
    rw [good_rows hm]
    intro q hq
    exact zero_one okN1 ((rows_facts hm).1 q hq).1
  rw [gd] at fe
  refine seq_step o2 (by rw [vIte_eq, vTst_eq, fe]; simp) ?_
  obtain ⟨os4, el⟩ : ∃ os, V_look_net C [.val (.tup (stD (netL m))), .val (.int (m : Int))] = .ok (.val .non) os := by
    rcases V_look_eq C hm okn with ⟨_, h⟩ | ⟨h, _⟩
    · exact h
    · rw [gd] at h; cases h
  refine seq_step o2 (by simp [k2_2, k2_3, k2_4, el]) ?_
  have ey := V_layers_eq m hm
  refine seq_step (((o2).set 5 (some (.val (.tup (layD m))))).set 6 (some (.val (.lst [])))) (par_step k2_2 k2_3 ey) ?_
  have L3 : (((o2).set 5 (some (.val (.tup (layD m))))).set 6 (some (.val (.lst [])))).length = 16 := (klen (klen L2))
  have D3 : ∃ a b c, (((o2).set 5 (some (.val (.tup (layD m))))).set 6 (some (.val (.lst []))))[1]? = some (some (dM a b c)) := (dset (dset D2 (by decide)) (by decide))
  have k3_2 : (((o2).set 5 (some (.val (.tup (layD m))))).set 6 (some (.val (.lst []))))[2]? = some (some (.val (.int (m : Int)))) := (kset (kset k2_2 (by decide)) (by decide))
  have k3_3 : (((o2).set 5 (some (.val (.tup (layD m))))).set 6 (some (.val (.lst []))))[3]? = some (some (.val (.tup (stD (netL m))))) := (kset (kset k2_3 (by decide)) (by decide))
  have k3_4 : (((o2).set 5 (some (.val (.tup (layD m))))).set 6 (some (.val (.lst []))))[4]? = some (some (.val (.lst (row.map D.int)))) := (kset (kset k2_4 (by decide)) (by decide))
  have k3_5 : (((o2).set 5 (some (.val (.tup (layD m))))).set 6 (some (.val (.lst []))))[5]? = some (some (.val (.tup (layD m)))) := (kset (kself L2 (by decide)) (by decide))
  have k3_6 : (((o2).set 5 (some (.val (.tup (layD m))))).set 6 (some (.val (.lst []))))[6]? = some (some (.val (.lst []))) := (kself (klen L2) (by decide))
  generalize ((o2).set 5 (some (.val (.tup (layD m))))).set 6 (some (.val (.lst []))) = o3 at L3 D3 k3_2 k3_3 k3_4 k3_5 k3_6 ⊢
  obtain ⟨oC, ⟨lC, sC⟩, q6, eC⟩ := lines_eq (K := K) (C := C) (m := m) L3 hm k3_5 k3_6
  refine seq_step oC (eC) ?_
  have L4 : (oC).length = 16 := lC
  have D4 : ∃ a b c, (oC)[1]? = some (some (dM a b c)) := (by rw [sC 1 (by decide)]; exact D3)
  have k4_2 : (oC)[2]? = some (some (.val (.int (m : Int)))) := ((sC 2 (by decide)).trans k3_2)
  have k4_3 : (oC)[3]? = some (some (.val (.tup (stD (netL m))))) := ((sC 3 (by decide)).trans k3_3)
  have k4_4 : (oC)[4]? = some (some (.val (.lst (row.map D.int)))) := ((sC 4 (by decide)).trans k3_4)
  have k4_5 : (oC)[5]? = some (some (.val (.tup (layD m)))) := ((sC 5 (by decide)).trans k3_5)
  have k4_6 : (oC)[6]? = some (some (.val (.lst (stD (layL m).flatten)))) := q6
  generalize oC = o4 at L4 D4 k4_2 k4_3 k4_4 k4_5 k4_6 ⊢
  have s1 := srt_1 m hm
  have s2 := srt_2 m hm
  have s3 := srt_3 m hm
  generalize stD (srtL m) = SR at s1 s2 s3
  refine seq_step o4 (by simp [k4_2, k4_3, k4_4, k4_5, k4_6, s1, s2, s3, ef]) ?_
  refine seq_step ((o4).set 11 (some (.lst (iM (List.replicate m 0))))) (dep0 k4_2 hm) ?_
  have L5 : ((o4).set 11 (some (.lst (iM (List.replicate m 0))))).length = 16 := (klen L4)
  have D5 : ∃ a b c, ((o4).set 11 (some (.lst (iM (List.replicate m 0)))))[1]? = some (some (dM a b c)) := (dset D4 (by decide))
  have k5_2 : ((o4).set 11 (some (.lst (iM (List.replicate m 0)))))[2]? = some (some (.val (.int (m : Int)))) := (kset k4_2 (by decide))
  have k5_3 : ((o4).set 11 (some (.lst (iM (List.replicate m 0)))))[3]? = some (some (.val (.tup (stD (netL m))))) := (kset k4_3 (by decide))
  have k5_4 : ((o4).set 11 (some (.lst (iM (List.replicate m 0)))))[4]? = some (some (.val (.lst (row.map D.int)))) := (kset k4_4 (by decide))
  have k5_5 : ((o4).set 11 (some (.lst (iM (List.replicate m 0)))))[5]? = some (some (.val (.tup (layD m)))) := (kset k4_5 (by decide))
  have k5_6 : ((o4).set 11 (some (.lst (iM (List.replicate m 0)))))[6]? = some (some (.val (.lst (stD (layL m).flatten)))) := (kset k4_6 (by decide))
  have k5_11 : ((o4).set 11 (some (.lst (iM (List.replicate m 0)))))[11]? = some (some (.lst (iM (List.replicate m 0)))) := (kself L4 (by decide))
  generalize (o4).set 11 (some (.lst (iM (List.replicate m 0)))) = o5 at L5 D5 k5_2 k5_3 k5_4 k5_5 k5_6 k5_11 ⊢
  obtain ⟨oD, ⟨lD, sD⟩, q11, eD⟩ := deps_eq (K := K) (C := C) (m := m) L5 hm k5_2 k5_3 k5_11
  refine seq_step oD (eD) ?_
  have L6 : (oD).length = 16 := lD
  have D6 : ∃ a b c, (oD)[1]? = some (some (dM a b c)) := (by rw [sD 1 (by decide)]; exact D5)
  have k6_2 : (oD)[2]? = some (some (.val (.int (m : Int)))) := ((sD 2 (by decide)).trans k5_2)
  have k6_3 : (oD)[3]? = some (some (.val (.tup (stD (netL m))))) := ((sD 3 (by decide)).trans k5_3)
  have k6_4 : (oD)[4]? = some (some (.val (.lst (row.map D.int)))) := ((sD 4 (by decide)).trans k5_4)
  have k6_5 : (oD)[5]? = some (some (.val (.tup (layD m)))) := ((sD 5 (by decide)).trans k5_5)
  have k6_11 : (oD)[11]? = some (some (.lst (iM (depL m)))) := q11
  generalize oD = o6 at L6 D6 k6_2 k6_3 k6_4 k6_5 k6_11 ⊢
  have d1 := dep_1 m hm
  obtain ⟨n1, n2, n3⟩ := net_2 m hm
  have ep := V_power_eq m hm
  have er := V_rows_eq m hm
  have rl : (lstD (rowsL m)).length = 2 ^ m := by rw [lstD, List.length_map, rows_len]
  have da : gAdd false (.lst ((depL m).map D.int)) (.lst [.int 0]) [] = some (.lst ((depL m ++ [0]).map D.int), []) := by rw [gAdd_lst (by simp; omega)]; simp
  generalize depL m ++ [0] = DE at d1 da
  refine seq_step o6 (by simp [k6_2, k6_3, k6_4, k6_5, k6_11, d1, da, ep, er, rl]) ?_
  have nn := net_1 m hm
  by_cases h1m : 1 < m
  · have hb : decide (1 < m) = true := by simpa using h1m
    rw [hb] at nn
    refine seq_stepE (Q := fun o1 => o1.length = 16 ∧ o1[2]? = some (some (.val (.int (m : Int)))) ∧ o1[4]? = some (some (.val (.lst (row.map D.int))))) ?_ ?_
    · refine ite_t (by simp [k6_2, k6_3, k6_4, nn]) ?_
      obtain ⟨ki, oE, hk0, hk1, sE, eE⟩ := (Sm.refl (js := [1]) D6).roll (by decide) (n := ((stD (netL m)).length : Int)) (va := vCB gLen (vCons (vVar 3) (vNil))) (by simp [k6_2, k6_3, k6_4]) (by rw [stD_len]; have := n1 h1m; omega) (by rw [stD_len]; omega)
      obtain ⟨k, rfl⟩ : ∃ k : Nat, ki = k := ⟨ki.toNat, by omega⟩
      have hk : k < (netL m).length := by rw [stD_len] at hk1; omega
      refine seq_step ((oE).set 12 (some (.val (.int (k : Int))))) (by rw [vAsg_eq, eE]; rfl) ?_
      have L7 : ((oE).set 12 (some (.val (.int (k : Int))))).length = 16 := (klen (sE.len.trans L6))
      have D7 : ∃ a b c, ((oE).set 12 (some (.val (.int (k : Int)))))[1]? = some (some (dM a b c)) := (dset sE.di (by decide))
      have k7_2 : ((oE).set 12 (some (.val (.int (k : Int)))))[2]? = some (some (.val (.int (m : Int)))) := (kset (sE.get k6_2 (by decide)) (by decide))
      have k7_3 : ((oE).set 12 (some (.val (.int (k : Int)))))[3]? = some (some (.val (.tup (stD (netL m))))) := (kset (sE.get k6_3 (by decide)) (by decide))
      have k7_4 : ((oE).set 12 (some (.val (.int (k : Int)))))[4]? = some (some (.val (.lst (row.map D.int)))) := (kset (sE.get k6_4 (by decide)) (by decide))
      have k7_12 : ((oE).set 12 (some (.val (.int (k : Int)))))[12]? = some (some (.val (.int (k : Int)))) := (kself (sE.len.trans L6) (by decide))
      generalize (oE).set 12 (some (.val (.int (k : Int)))) = o7 at L7 D7 k7_2 k7_3 k7_4 k7_12 ⊢
      have c1 := cutD_to (stD (netL m)) k
      have c2 := cutD_from (stD (netL m)) (k + 1)
      have kk : ((k : Int) + 1) = ((k + 1 : Nat) : Int) := by omega
      rw [← kk] at c2
      have ca : gAdd false (.tup ((stD (netL m)).take k)) (.tup ((stD (netL m)).drop (k + 1))) [] = some (.tup (stD ((netL m).take k ++ (netL m).drop (k + 1))), []) := by
        rw [gAdd_tup (by simp [stD]; omega)]; simp [stD]
      have ok2 : okN m ((netL m).take k ++ (netL m).drop (k + 1)) = true := okN_less okn k
      generalize (netL m).take k ++ (netL m).drop (k + 1) = LS at ca ok2
      refine seq_step ((o7).set 13 (some (.val (.tup (stD LS))))) (by simp [k7_2, k7_3, k7_4, k7_12, c1, c2, ca]) ?_
      have L8 : ((o7).set 13 (some (.val (.tup (stD LS))))).length = 16 := (klen L7)
      have D8 : ∃ a b c, ((o7).set 13 (some (.val (.tup (stD LS)))))[1]? = some (some (dM a b c)) := (dset D7 (by decide))
      have k8_2 : ((o7).set 13 (some (.val (.tup (stD LS)))))[2]? = some (some (.val (.int (m : Int)))) := (kset k7_2 (by decide))
      have k8_3 : ((o7).set 13 (some (.val (.tup (stD LS)))))[3]? = some (some (.val (.tup (stD (netL m))))) := (kset k7_3 (by decide))
      have k8_4 : ((o7).set 13 (some (.val (.tup (stD LS)))))[4]? = some (some (.val (.lst (row.map D.int)))) := (kset k7_4 (by decide))
      have k8_12 : ((o7).set 13 (some (.val (.tup (stD LS)))))[12]? = some (some (.val (.int (k : Int)))) := (kset k7_12 (by decide))
      have k8_13 : ((o7).set 13 (some (.val (.tup (stD LS)))))[13]? = some (some (.val (.tup (stD LS)))) := (kself L7 (by decide))
      generalize (o7).set 13 (some (.val (.tup (stD LS)))) = o8 at L8 D8 k8_2 k8_3 k8_4 k8_12 k8_13 ⊢
      have fe2 := fails_eq (s := 13) (ps := LS) L8 hm k8_2 k8_13 (by decide) ok2
      refine seq_step ((o8).set 14 (some (.val (.bl (!goodN m LS))))) (by rw [vAsg_eq, fe2]; rfl) ?_
      have L9 : ((o8).set 14 (some (.val (.bl (!goodN m LS))))).length = 16 := (klen L8)
      have D9 : ∃ a b c, ((o8).set 14 (some (.val (.bl (!goodN m LS)))))[1]? = some (some (dM a b c)) := (dset D8 (by decide))
      have k9_2 : ((o8).set 14 (some (.val (.bl (!goodN m LS)))))[2]? = some (some (.val (.int (m : Int)))) := (kset k8_2 (by decide))
      have k9_3 : ((o8).set 14 (some (.val (.bl (!goodN m LS)))))[3]? = some (some (.val (.tup (stD (netL m))))) := (kset k8_3 (by decide))
      have k9_4 : ((o8).set 14 (some (.val (.bl (!goodN m LS)))))[4]? = some (some (.val (.lst (row.map D.int)))) := (kset k8_4 (by decide))
      have k9_12 : ((o8).set 14 (some (.val (.bl (!goodN m LS)))))[12]? = some (some (.val (.int (k : Int)))) := (kset k8_12 (by decide))
      have k9_13 : ((o8).set 14 (some (.val (.bl (!goodN m LS)))))[13]? = some (some (.val (.tup (stD LS)))) := (kset k8_13 (by decide))
      have k9_14 : ((o8).set 14 (some (.val (.bl (!goodN m LS)))))[14]? = some (some (.val (.bl (!goodN m LS)))) := (kself L8 (by decide))
      generalize (o8).set 14 (some (.val (.bl (!goodN m LS)))) = o9 at L9 D9 k9_2 k9_3 k9_4 k9_12 k9_13 k9_14 ⊢
      refine ⟨o9, ⟨L9, k9_2, k9_4⟩, ?_⟩
      rcases V_look_eq C hm ok2 with ⟨g, os5, e5⟩ | ⟨g, os5, e5⟩
      · simp [k9_2, k9_3, k9_4, k9_12, k9_13, k9_14, e5, g]
      · simp [k9_2, k9_3, k9_4, k9_12, k9_13, k9_14, e5, g, tell_hit X.BadSteps_BadSteps]
    · rintro o9 ⟨L9, k9_2, k9_4⟩
      obtain ⟨os6, e6⟩ := V_by_far C row (m : Int) (by omega)
      obtain ⟨os7, e7⟩ := V_by_back C row
      refine seq_step o9 (by simp [k9_2, k9_4, e6, tell_hit X.BadSteps_BadSteps]) ?_
      refine ⟨o9, L9, ?_⟩
      simp [k9_2, k9_4, e7, tell_hit X.BadSteps_BadSteps]
  · have hb : decide (1 < m) = false := by simpa using h1m
    rw [hb] at nn
    refine seq_step o6 (by simp [k6_2, k6_3, k6_4, nn]) ?_
    obtain ⟨os6, e6⟩ := V_by_far C row (m : Int) (by omega)
    refine seq_step o6 (by simp [k6_2, k6_3, k6_4, e6, tell_hit X.BadSteps_BadSteps]) ?_
    refine ⟨o6, L6, ?_⟩
    have hc : ¬ (1 : Int) < (m : Int) := by omega
    simp [k6_2, k6_3, k6_4, hc]
theorem law_true {K : PySem.W.Frag} {C_BadSteps : Addr} (X : Xf K C_BadSteps) (ns : List Int) (hl : ns.length ≤ 63) : ∃ os, (V_law K C_BadSteps) [.val (.scr ns)] = .ok (.val (.bl true)) os := by
  unfold V_law
  obtain ⟨ds, os, h1, h2, h3⟩ := V_rounds_eq ns 2 hl
  obtain ⟨o', g1, g2⟩ := rounds_all (i := 1) (k := 16) (b := v_law_b1 K C_BadSteps V__law_rounds V__law_roll V_net (V_by_net C_BadSteps) V__law_done V__law_rows (V_look_net C_BadSteps) V_layers V_power) (fun o x y z hl hd => round X o x y z hl hd) (by decide) ds ([some (.val (.scr ns))] ++ List.replicate 15 none) h1 rfl
  have h4 : ds.length < 100000 := by omega
  refine ⟨o'.take 1, ?_⟩
  rw [runV_1]
  unfold v_law
  show outV 1 (vSeq _ _ ⟨[some (.val (.scr ns))] ++ List.replicate 15 none, []⟩) = _
  have e1 : vForO (vCallV V__law_rounds (vCons (vVar 0) (vCons (vC (.int 2)) (vNil)))) (tName 1) (v_law_b1 K C_BadSteps V__law_rounds V__law_roll V_net (V_by_net C_BadSteps) V__law_done V__law_rows (V_look_net C_BadSteps) V_layers V_power) ⟨[some (.val (.scr ns))] ++ List.replicate 15 none, []⟩ = .nx ⟨o', []⟩ := by
    rw [← g2]; simp [h3, h4]
  rw [vSeq_eq, e1]
  rfl
end Law

namespace Law
open PySem L2 PF
variable [Tab]
def topS (i : Nat) : Stmt := PySem.Challenge.pw_heapyard_k23_nets_of_exchanges.main.body.getD i (.Pass ⟨0, 0, 0, 0⟩)
abbrev st_net : Stmt := topS 4
theorem sc_net : FnScope ["many", "found", "size", "gap", "first", "k", "low"] ["many"] (defScope st_net) :=
  ⟨rfl, rfl, rfl, by decide +kernel, rfl, by decide +kernel, by decide +kernel⟩
structure T_net (K : PySem.W.Frag) (mg : Str → Option Value) : Prop where
  b_range : mg "range" = none
  b_tuple : mg "tuple" = none
set_option maxHeartbeats 4000000 in
theorem d_net {P : Program} {w : World} {K : PySem.W.Frag} {mg : Str → Option Value} {base : Heap} {f : Addr} {cdv : Value} {A : Around} {outer : List Env} {s : Shared} {H : Hp} {E : XK} {k : Nat} (T : T_net K mg)
    (hr : Room k (A.deeper (PyProof.Rows.envOfC "net" (defScope st_net) s.heap.objs.size f cdv))) :
    PFB (cxOf (L2.CX P w) P w K mg base ["many", "found", "size", "gap", "first", "k", "low"] "net" (defScope st_net) f cdv A outer s H E) (fun c d _ H => E c d H) (defBody st_net) (f_net) :=
  pfb_cons (pfs_par (i := 1) (j := 2) rfl sc_net.nd rfl rfl (by decide) rfl rfl (pfa_cons (pf_lst true (pfa_nil)) (pfa_cons (pf_int) (pfa_nil))) (by rfl))
    (pfb_cons (pfs_while 100000 (passes_of rfl) (pft_cmp (op_ltA hr.units0) opd_lt (pf_var 2) (pf_var 0) (nomark _)) (pfb_cons (pfs_set (i := 3) sc_net.nd rfl (Or.inl rfl) (pf_var 2))
    (pfb_cons (pfs_while 100000 (passes_of rfl) (pft_cmp op_ge opd_ge (pf_var 3) (pf_int) (nomark _)) (pfb_cons (pfs_for 100000 (passes_of rfl) rfl (pfi_range3 (by rfl) T.b_range (pfa_cons (pf_op op_mod opd_mod (pf_var 3) (pf_var 2)) (pfa_cons (pf_op op_sub opd_sub (pf_var 0) (pf_var 3)) (pfa_cons (pf_op op_mulA (opd_mul false) (pf_int) (pf_var 3)) (pfa_nil))))) (pfg_name (i := 4) sc_net.nd rfl (Or.inl rfl)) (pfb_one (pfs_for 100000 (passes_of rfl) rfl (pfi_range1 (by rfl) T.b_range (pfa_cons (pf_var 3) (pfa_nil))) (pfg_name (i := 5) sc_net.nd rfl (Or.inl rfl)) (pfb_cons (pfs_set (i := 6) sc_net.nd rfl (Or.inl rfl) (pf_op op_addA (opd_add false) (pf_var 4) (pf_var 5)))
    (pfb_one (pfs_if (pft_w (pfw_and (pft_cmp (op_ltA hr.units0) opd_lt (pf_op op_addA (opd_add false) (pf_var 6) (pf_var 3)) (pf_var 0) (nomark _)) (pfw_and1 (pft_cmp (op_eqD hr.units) opd_eq (pf_op op_fdiv opd_fdiv (pf_var 6) (pf_op op_mulA (opd_mul false) (pf_int) (pf_var 2))) (pf_op op_fdiv opd_fdiv (pf_op op_addA (opd_add false) (pf_var 6) (pf_var 3)) (pf_op op_mulA (opd_mul false) (pf_int) (pf_var 2))) (nomark _))))) (pfb_one (pfs_expr (pf_bm PySem.F.plainAttrs_list PySem.F.slot_list_append PySem.F.type_list_append mt_append md_append (pf_var 1) (pfa_cons (pf_tup (pfa_cons (pf_var 6) (pfa_cons (pf_op op_addA (opd_add false) (pf_var 6) (pf_var 3)) (pfa_nil)))) (pfa_nil))))) (pfb_nil)))))))
    (pfb_one (pfs_aug (i := 3) sc_net.nd rfl (Or.inl rfl) iop_fdiv opd_fdiv (pf_int)))))
    (pfb_one (pfs_aug (i := 2) sc_net.nd rfl (Or.inl rfl) iop_mul opd_imul (pf_int))))))
    (pfb_one (pfs_ret (pf_callTy call_tuple_of cd_tuple (by rfl) T.b_tuple (pfa_cons (pf_var 1) (pfa_nil))))))
abbrev st_by_net : Stmt := topS 5
theorem sc_by_net : FnScope ["row", "steps", "found", "low", "high"] ["row", "steps"] (defScope st_by_net) :=
  ⟨rfl, rfl, rfl, by decide +kernel, rfl, by decide +kernel, by decide +kernel⟩
structure T_by_net (K : PySem.W.Frag) (mg : Str → Option Value) (C_BadSteps : Addr) : Prop where
  b_len : mg "len" = none
  b_list : mg "list" = none
  b_tuple : mg "tuple" = none
  e_BadSteps : Exc K mg "BadSteps" C_BadSteps
set_option maxHeartbeats 4000000 in
theorem d_by_net {P : Program} {w : World} {K : PySem.W.Frag} {mg : Str → Option Value} {base : Heap} {f : Addr} {cdv : Value} {A : Around} {outer : List Env} {s : Shared} {H : Hp} {E : XK} {k : Nat} {C_BadSteps : Addr} (T : T_by_net K mg C_BadSteps)
    (hr : Room k (A.deeper (PyProof.Rows.envOfC "by_net" (defScope st_by_net) s.heap.objs.size f cdv))) :
    PFB (cxOf (L2.CX P w) P w K mg base ["row", "steps", "found", "low", "high"] "by_net" (defScope st_by_net) f cdv A outer s H E) (fun c d _ H => E c d H) (defBody st_by_net) (f_by_net C_BadSteps) :=
  pfb_cons (pfs_set (i := 2) sc_by_net.nd rfl (Or.inl rfl) (pf_callTy call_list_of (cd_list true) (by rfl) T.b_list (pfa_cons (pf_var 0) (pfa_nil))))
    (pfb_cons (pfs_for 100000 (passes_of rfl) rfl (pfi_seq (pf_var 1)) (pfg_tup rfl (pfgs_cons (pfg_name (i := 3) sc_by_net.nd rfl (Or.inl rfl)) (pfgs_cons (pfg_name (i := 4) sc_by_net.nd rfl (Or.inl rfl)) (pfgs_nil)))) (pfb_cons (pfs_if (pft_not (pft_chain3 op_le opd_le (op_ltA hr.units0) opd_lt (op_ltA hr.units0) opd_lt (pf_int) (pf_var 3) (pf_var 4) (pf_callB call_lenA cd_len (by rfl) T.b_len (pfa_cons (pf_var 2) (pfa_nil))))) (pfb_one (pfs_raiseE T.e_BadSteps rfl (takes_of rfl rfl rfl rfl) (by rfl))) (pfb_nil))
    (pfb_one (pfs_if (pft_cmp (op_gtA hr.units0) opd_gtA (pf_ix (pf_var 2) (pf_var 3)) (pf_ix (pf_var 2) (pf_var 4)) (nomark _)) (pfb_one (pfs_asg (pf_tup (pfa_cons (pf_ix (pf_var 2) (pf_var 4)) (pfa_cons (pf_ix (pf_var 2) (pf_var 3)) (pfa_nil)))) (pfg_tup rfl (pfgs_cons (pfg_sub (Wx := F0) (pf_var 2) (pf_var 3)) (pfgs_cons (pfg_sub (Wx := F0) (pf_var 2) (pf_var 4)) (pfgs_nil)))))) (pfb_nil)))))
    (pfb_one (pfs_ret (pf_callTy call_tuple_of cd_tuple (by rfl) T.b_tuple (pfa_cons (pf_var 2) (pfa_nil))))))
abbrev st_power : Stmt := topS 7
theorem sc_power : FnScope ["many", "found", "k"] ["many"] (defScope st_power) :=
  ⟨rfl, rfl, rfl, by decide +kernel, rfl, by decide +kernel, by decide +kernel⟩
structure T_power (K : PySem.W.Frag) (mg : Str → Option Value) : Prop where
  b_range : mg "range" = none
set_option maxHeartbeats 4000000 in
theorem d_power {P : Program} {w : World} {K : PySem.W.Frag} {mg : Str → Option Value} {base : Heap} {f : Addr} {cdv : Value} {A : Around} {outer : List Env} {s : Shared} {H : Hp} {E : XK} {k : Nat} (T : T_power K mg)
    (hr : Room k (A.deeper (PyProof.Rows.envOfC "power" (defScope st_power) s.heap.objs.size f cdv))) :
    PFB (cxOf (L2.CX P w) P w K mg base ["many", "found", "k"] "power" (defScope st_power) f cdv A outer s H E) (fun c d _ H => E c d H) (defBody st_power) (f_power) :=
  pfb_cons (pfs_set (i := 1) sc_power.nd rfl (Or.inl rfl) (pf_int))
    (pfb_cons (pfs_for 100000 (passes_of rfl) rfl (pfi_range1 (by rfl) T.b_range (pfa_cons (pf_var 0) (pfa_nil))) (pfg_name (i := 2) sc_power.nd rfl (Or.inl rfl)) (pfb_one (pfs_aug (i := 1) sc_power.nd rfl (Or.inl rfl) iop_mul opd_imul (pf_int))))
    (pfb_one (pfs_ret (pf_var 1))))
abbrev st_look_net : Stmt := topS 6
theorem sc_look_net : FnScope ["steps", "many", "number", "row", "rest", "k"] ["steps", "many"] (defScope st_look_net) :=
  ⟨rfl, rfl, rfl, by decide +kernel, rfl, by decide +kernel, by decide +kernel⟩
structure T_look_net (K : PySem.W.Frag) (mg : Str → Option Value) (C_BadSteps : Addr) : Prop where
  b_range : mg "range" = none
  b_sorted : mg "sorted" = none
  b_str : mg "str" = none
  b_tuple : mg "tuple" = none
  e_BadSteps : Exc K mg "BadSteps" C_BadSteps
set_option maxHeartbeats 4000000 in
theorem d_look_net {P : Program} {w : World} {K : PySem.W.Frag} {mg : Str → Option Value} {base : Heap} {f : Addr} {cdv : Value} {A : Around} {outer : List Env} {s : Shared} {H : Hp} {E : XK} {k : Nat} {C_BadSteps : Addr} {F_power F_by_net : FN} {k_power k_by_net : Nat} (T : T_look_net K mg C_BadSteps)
    (c_power : Cal P w K mg base "power" ["many"] k_power F_power) (l_power : k_power ≤ k)
    (c_by_net : Cal P w K mg base "by_net" ["row", "steps"] k_by_net F_by_net) (l_by_net : k_by_net ≤ k)
    (hr : Room k (A.deeper (PyProof.Rows.envOfC "look_net" (defScope st_look_net) s.heap.objs.size f cdv))) :
    PFB (cxOf (L2.CX P w) P w K mg base ["steps", "many", "number", "row", "rest", "k"] "look_net" (defScope st_look_net) f cdv A outer s H E) (fun c d _ H => E c d H) (defBody st_look_net) (f_look_net C_BadSteps F_power F_by_net) :=
  pfb_one (pfs_for 100000 (passes_of rfl) rfl (pfi_range1 (by rfl) T.b_range (pfa_cons (pf_callC c_power hr l_power (by rfl) (takes_of rfl rfl rfl rfl) (pfa_cons (pf_var 1) (pfa_nil))) (pfa_nil))) (pfg_name (i := 2) sc_look_net.nd rfl (Or.inl rfl)) (pfb_cons (pfs_par (i := 3) (j := 4) rfl sc_look_net.nd rfl rfl (by decide) rfl rfl (pfa_cons (pf_lst true (pfa_nil)) (pfa_cons (pf_var 2) (pfa_nil))) (by rfl))
    (pfb_cons (pfs_for 100000 (passes_of rfl) rfl (pfi_range1 (by rfl) T.b_range (pfa_cons (pf_var 1) (pfa_nil))) (pfg_name (i := 5) sc_look_net.nd rfl (Or.inl rfl)) (pfb_cons (pfs_expr (pf_bm PySem.F.plainAttrs_list PySem.F.slot_list_append PySem.F.type_list_append mt_append md_append (pf_var 3) (pfa_cons (pf_op op_mod opd_mod (pf_var 4) (pf_int)) (pfa_nil))))
    (pfb_one (pfs_aug (i := 4) sc_look_net.nd rfl (Or.inl rfl) iop_fdiv opd_fdiv (pf_int)))))
    (pfb_one (pfs_if (pft_cmp (op_neD hr.units) opd_ne (pf_callC c_by_net hr l_by_net (by rfl) (takes_of rfl rfl rfl rfl) (pfa_cons (pf_var 3) (pfa_cons (pf_var 0) (pfa_nil)))) (pf_callTy call_tuple_of cd_tuple (by rfl) T.b_tuple (pfa_cons (pf_callB (cr_sortedI.or cr_sortZ) (cd_sortA false) (by rfl) T.b_sorted (pfa_cons (pf_var 3) (pfa_nil))) (pfa_nil))) (nomark _)) (pfb_one (pfs_raiseX T.e_BadSteps rfl (takes_of rfl rfl rfl rfl) (pfa_cons (pf_op op_addA (opd_add false) (pf_str) (pf_callTy call_str_int cd_str (by rfl) T.b_str (pfa_cons (pf_var 2) (pfa_nil)))) (pfa_nil)) (by rfl))) (pfb_nil))))))
abbrev st_layers : Stmt := topS 8
theorem sc_layers : FnScope ["steps", "many", "free", "found", "low", "high", "k", "row"] ["steps", "many"] (defScope st_layers) :=
  ⟨rfl, rfl, rfl, by decide +kernel, rfl, by decide +kernel, by decide +kernel⟩
structure T_layers (K : PySem.W.Frag) (mg : Str → Option Value) : Prop where
  b_len : mg "len" = none
  b_max : mg "max" = none
  b_tuple : mg "tuple" = none
set_option maxHeartbeats 4000000 in
theorem d_layers {P : Program} {w : World} {K : PySem.W.Frag} {mg : Str → Option Value} {base : Heap} {f : Addr} {cdv : Value} {A : Around} {outer : List Env} {s : Shared} {H : Hp} {E : XK} {k : Nat} (T : T_layers K mg)
    (hr : Room k (A.deeper (PyProof.Rows.envOfC "layers" (defScope st_layers) s.heap.objs.size f cdv))) :
    PFB (cxOf (L2.CX P w) P w K mg base ["steps", "many", "free", "found", "low", "high", "k", "row"] "layers" (defScope st_layers) f cdv A outer s H E) (fun c d _ H => E c d H) (defBody st_layers) (f_layers) :=
  pfb_cons (pfs_par (i := 2) (j := 3) rfl sc_layers.nd rfl rfl (by decide) rfl rfl (pfa_cons (pf_op op_mulA (opd_mul true) (pf_lst false (pfa_cons (pf_int) (pfa_nil))) (pf_var 1)) (pfa_cons (pf_lst true (pfa_nil)) (pfa_nil))) (by rfl))
    (pfb_cons (pfs_for 100000 (passes_of rfl) rfl (pfi_seq (pf_var 0)) (pfg_tup rfl (pfgs_cons (pfg_name (i := 4) sc_layers.nd rfl (Or.inl rfl)) (pfgs_cons (pfg_name (i := 5) sc_layers.nd rfl (Or.inl rfl)) (pfgs_nil)))) (pfb_cons (pfs_set (i := 6) sc_layers.nd rfl (Or.inl rfl) (pf_callB (call_maxA rfl) cd_max (by rfl) T.b_max (pfa_cons (pf_ix (pf_var 2) (pf_var 4)) (pfa_cons (pf_ix (pf_var 2) (pf_var 5)) (pfa_nil)))))
    (pfb_cons (pfs_while 100000 (passes_of rfl) (pft_cmp op_le opd_le (pf_callB call_lenA cd_len (by rfl) T.b_len (pfa_cons (pf_var 3) (pfa_nil))) (pf_var 6) (nomark _)) (pfb_one (pfs_expr (pf_bm PySem.F.plainAttrs_list PySem.F.slot_list_append PySem.F.type_list_append mt_append md_append (pf_var 3) (pfa_cons (pf_lst true (pfa_nil)) (pfa_nil))))))
    (pfb_cons (pfs_expr (pf_bm PySem.F.plainAttrs_list PySem.F.slot_list_append PySem.F.type_list_append mt_append md_append (pf_ix (pf_var 3) (pf_var 6)) (pfa_cons (pf_tup (pfa_cons (pf_var 4) (pfa_cons (pf_var 5) (pfa_nil)))) (pfa_nil))))
    (pfb_one (pfs_asg (pf_tup (pfa_cons (pf_op op_addA (opd_add false) (pf_var 6) (pf_int)) (pfa_cons (pf_op op_addA (opd_add false) (pf_var 6) (pf_int)) (pfa_nil)))) (pfg_tup rfl (pfgs_cons (pfg_sub (Wx := F0) (pf_var 2) (pf_var 4)) (pfgs_cons (pfg_sub (Wx := F0) (pf_var 2) (pf_var 5)) (pfgs_nil))))))))))
    (pfb_one (pfs_ret (pf_callTy call_tuple_of cd_tuple (by rfl) T.b_tuple (pfa_cons (pf_lc 100000 false [("row", 7)] rfl sc_layers.nd (own_name 7) (wipe_wipe1 _) (pfi_seq (pf_var 3)) (blkOk_by (own := [("row", 7)]) (N := ["steps", "many", "free", "found", "low", "high", "k", "row"]) (sc := defScope st_layers) (by decide +kernel)) (fun _ _ _ _ _ => pg_name (i := 7) sc_layers.nd rfl (Or.inl rfl)) (fun _ _ _ _ _ => pfts_nil) (fun _ _ _ _ _ => pf_callTy call_tuple_of cd_tuple (by rfl) T.b_tuple (pfa_cons (pf_var 7) (pfa_nil)))) (pfa_nil))))))
abbrev st__law_dice : Stmt := topS 10
theorem sc__law_dice : FnScope ["cell"] ["cell"] (defScope st__law_dice) :=
  ⟨rfl, rfl, rfl, by decide +kernel, rfl, by decide +kernel, by decide +kernel⟩
structure T__law_dice (K : PySem.W.Frag) (mg : Str → Option Value) : Prop where
  b_abs : mg "abs" = none
  b_int : mg "int" = none
set_option maxHeartbeats 4000000 in
theorem d__law_dice {P : Program} {w : World} {K : PySem.W.Frag} {mg : Str → Option Value} {base : Heap} {f : Addr} {cdv : Value} {A : Around} {outer : List Env} {s : Shared} {H : Hp} {E : XK} {k : Nat} (T : T__law_dice K mg)
    (hr : Room k (A.deeper (PyProof.Rows.envOfC "_law_dice" (defScope st__law_dice) s.heap.objs.size f cdv))) :
    PFB (cxOf (L2.CX P w) P w K mg base ["cell"] "_law_dice" (defScope st__law_dice) f cdv A outer s H E) (fun c d _ H => E c d H) (defBody st__law_dice) (f__law_dice) :=
  pfb_cons (pfs_if (pft_chain (op_ltA hr.units0) opd_lt (op_ltA hr.units0) opd_lt (pf_op op_sub opd_sub (pf_int) (pf_int)) (pf_var 0) (pf_int)) (pfb_one (pfs_ret (pf_lst true (pfa_cons (pf_callB call_abs cd_abs (by rfl) T.b_abs (pfa_cons (pf_var 0) (pfa_nil))) (pfa_cons (pf_int) (pfa_cons (pf_int) (pfa_nil))))))) (pfb_nil))
    (pfb_one (pfs_ret (pf_lst true (pfa_cons (pf_var 0) (pfa_cons (pf_op op_addA (opd_add false) (pf_int) (pf_op op_mod opd_mod (pf_callTy call_int1 cd_int (by rfl) T.b_int (pfa_cons (pf_var 0) (pfa_nil))) (pf_int))) (pfa_cons (pf_callTy call_int1 cd_int (by rfl) T.b_int (pfa_cons (pf_cmp op_ge opd_ge (pf_var 0) (pf_op op_pow opd_pow (pf_int) (pf_int)) (nomark _)) (pfa_nil))) (pfa_nil)))))))
abbrev st__law_roll : Stmt := topS 11
theorem sc__law_roll : FnScope ["dice", "many", "found"] ["dice", "many"] (defScope st__law_roll) :=
  ⟨rfl, rfl, rfl, by decide +kernel, rfl, by decide +kernel, by decide +kernel⟩
structure T__law_roll (K : PySem.W.Frag) (mg : Str → Option Value) : Prop where
  b_int : mg "int" = none
set_option maxHeartbeats 4000000 in
theorem d__law_roll {P : Program} {w : World} {K : PySem.W.Frag} {mg : Str → Option Value} {base : Heap} {f : Addr} {cdv : Value} {A : Around} {outer : List Env} {s : Shared} {H : Hp} {E : XK} {k : Nat} (T : T__law_roll K mg)
    (hr : Room k (A.deeper (PyProof.Rows.envOfC "_law_roll" (defScope st__law_roll) s.heap.objs.size f cdv))) :
    PFB (cxOf (L2.CX P w) P w K mg base ["dice", "many", "found"] "_law_roll" (defScope st__law_roll) f cdv A outer s H E) (fun c d _ H => E c d H) (defBody st__law_roll) (f__law_roll) :=
  pfb_cons (pfs_if (pft_w (pfw_or (pft_cmp (op_eqD hr.units) opd_eq (pf_ix (pf_var 0) (pf_int)) (pf_int) (nomark _)) (pfw_or1 (pft_w (pfw_and (pft_cmp (op_eqD hr.units) opd_eq (pf_ix (pf_var 0) (pf_int)) (pf_int) (nomark _)) (pfw_and1 (pft_cmp (op_gtA hr.units0) opd_gtA (pf_ix (pf_var 0) (pf_int)) (pf_int) (nomark _)))))))) (pfb_cons (pfs_set (i := 2) sc__law_roll.nd rfl (Or.inl rfl) (pf_op op_mod opd_mod (pf_callTy call_int1 cd_int (by rfl) T.b_int (pfa_cons (pf_ix (pf_var 0) (pf_int)) (pfa_nil))) (pf_var 1)))
    (pfb_cons (pfs_asg (pf_op op_fdiv opd_fdiv (pf_ix (pf_var 0) (pf_int)) (pf_var 1)) (pfg_sub (Wx := F0) (pf_var 0) (pf_int)))
    (pfb_one (pfs_ret (pf_var 2))))) (pfb_nil))
    (pfb_cons (pfs_asg (pf_int) (pfg_sub (Wx := F0) (pf_var 0) (pf_int)))
    (pfb_cons (pfs_asg (pf_op op_mod opd_mod (pf_callTy call_int1 cd_int (by rfl) T.b_int (pfa_cons (pf_op op_addA (opd_add false) (pf_op op_addA (opd_add false) (pf_op op_mulA (opd_mul false) (pf_ix (pf_var 0) (pf_int)) (pf_int)) (pf_op op_mulA (opd_mul false) (pf_ix (pf_var 0) (pf_int)) (pf_int))) (pf_int)) (pfa_nil))) (pf_int)) (pfg_sub (Wx := F0) (pf_var 0) (pf_int)))
    (pfb_cons (pfs_asg (pf_op op_addA (opd_add false) (pf_ix (pf_var 0) (pf_int)) (pf_int)) (pfg_sub (Wx := F0) (pf_var 0) (pf_int)))
    (pfb_one (pfs_ret (pf_op op_mod opd_mod (pf_callTy call_int1 cd_int (by rfl) T.b_int (pfa_cons (pf_op op_addA (opd_add false) (pf_op op_fdiv opd_fdiv (pf_ix (pf_var 0) (pf_int)) (pf_int)) (pf_ix (pf_var 0) (pf_int))) (pfa_nil))) (pf_var 1)))))))
abbrev st__law_rounds : Stmt := topS 12
theorem sc__law_rounds : FnScope ["script", "most", "cells", "cell"] ["script", "most"] (defScope st__law_rounds) :=
  ⟨rfl, rfl, rfl, by decide +kernel, rfl, by decide +kernel, by decide +kernel⟩
structure T__law_rounds (K : PySem.W.Frag) (mg : Str → Option Value) : Prop where
  triv : True
set_option maxHeartbeats 4000000 in
theorem d__law_rounds {P : Program} {w : World} {K : PySem.W.Frag} {mg : Str → Option Value} {base : Heap} {f : Addr} {cdv : Value} {A : Around} {outer : List Env} {s : Shared} {H : Hp} {E : XK} {k : Nat} {F__law_dice : FN} {k__law_dice : Nat} (T : T__law_rounds K mg)
    (c__law_dice : Cal P w K mg base "_law_dice" ["cell"] k__law_dice F__law_dice) (l__law_dice : k__law_dice ≤ k)
    (hr : Room k (A.deeper (PyProof.Rows.envOfC "_law_rounds" (defScope st__law_rounds) s.heap.objs.size f cdv))) :
    PFB (cxOf (L2.CX P w) P w K mg base ["script", "most", "cells", "cell"] "_law_rounds" (defScope st__law_rounds) f cdv A outer s H E) (fun c d _ H => E c d H) (defBody st__law_rounds) (f__law_rounds F__law_dice) :=
  pfb_cons (pfs_set (i := 2) sc__law_rounds.nd rfl (Or.inl rfl) (pf_sl false (pf_var 0) (pfo_none) (pfo_some (pf_var 1))))
    (pfb_cons (pfs_if (pft_cmp (op_eqD hr.units) opd_eq (pf_var 2) (pf_lst false (pfa_nil)) (nomark _)) (pfb_one (pfs_set (i := 2) sc__law_rounds.nd rfl (Or.inl rfl) (pf_lst false (pfa_cons (pf_int) (pfa_nil))))) (pfb_nil))
    (pfb_one (pfs_ret (pf_lc 100000 true [("cell", 3)] rfl sc__law_rounds.nd (own_name 3) (wipe_wipe1 _) (pfi_seq (pf_var 2)) (blkOk_by (own := [("cell", 3)]) (N := ["script", "most", "cells", "cell"]) (sc := defScope st__law_rounds) (by decide +kernel)) (fun _ _ _ _ _ => pg_name (i := 3) sc__law_rounds.nd rfl (Or.inl rfl)) (fun _ _ _ _ _ => pfts_nil) (fun _ _ _ _ _ => pf_callC c__law_dice hr l__law_dice (by rfl) takes0 (pfa_cons (pf_var 3) (pfa_nil)))))))
abbrev st__law_refused : Stmt := topS 13
theorem sc__law_refused : FnScope ["what"] ["what"] (defScope st__law_refused) :=
  ⟨rfl, rfl, rfl, by decide +kernel, rfl, by decide +kernel, by decide +kernel⟩
abbrev st__law_done : Stmt := topS 14
theorem sc__law_done : FnScope ["row", "steps", "low", "high"] ["row", "steps"] (defScope st__law_done) :=
  ⟨rfl, rfl, rfl, by decide +kernel, rfl, by decide +kernel, by decide +kernel⟩
structure T__law_done (K : PySem.W.Frag) (mg : Str → Option Value) : Prop where
  triv : True
set_option maxHeartbeats 4000000 in
theorem d__law_done {P : Program} {w : World} {K : PySem.W.Frag} {mg : Str → Option Value} {base : Heap} {f : Addr} {cdv : Value} {A : Around} {outer : List Env} {s : Shared} {H : Hp} {E : XK} {k : Nat} (T : T__law_done K mg)
    (hr : Room k (A.deeper (PyProof.Rows.envOfC "_law_done" (defScope st__law_done) s.heap.objs.size f cdv))) :
    PFB (cxOf (L2.CX P w) P w K mg base ["row", "steps", "low", "high"] "_law_done" (defScope st__law_done) f cdv A outer s H E) (fun c d _ H => E c d H) (defBody st__law_done) (f__law_done) :=
  pfb_cons (pfs_for 100000 (passes_of rfl) rfl (pfi_seq (pf_var 1)) (pfg_tup rfl (pfgs_cons (pfg_name (i := 2) sc__law_done.nd rfl (Or.inl rfl)) (pfgs_cons (pfg_name (i := 3) sc__law_done.nd rfl (Or.inl rfl)) (pfgs_nil)))) (pfb_one (pfs_if (pft_cmp (op_gtA hr.units0) opd_gtA (pf_ix (pf_var 0) (pf_var 2)) (pf_ix (pf_var 0) (pf_var 3)) (nomark _)) (pfb_one (pfs_set (i := 0) sc__law_done.nd rfl (Or.inl rfl) (pf_op op_addA (opd_add false) (pf_op op_addA (opd_add false) (pf_op op_addA (opd_add false) (pf_op op_addA (opd_add false) (pf_sl false (pf_var 0) (pfo_none) (pfo_some (pf_var 2))) (pf_lst false (pfa_cons (pf_ix (pf_var 0) (pf_var 3)) (pfa_nil)))) (pf_sl false (pf_var 0) (pfo_some (pf_op op_addA (opd_add false) (pf_var 2) (pf_int))) (pfo_some (pf_var 3)))) (pf_lst false (pfa_cons (pf_ix (pf_var 0) (pf_var 2)) (pfa_nil)))) (pf_sl false (pf_var 0) (pfo_some (pf_op op_addA (opd_add false) (pf_var 3) (pf_int))) (pfo_none))))) (pfb_nil))))
    (pfb_one (pfs_ret (pf_var 0)))
abbrev st__law_rows : Stmt := topS 15
theorem sc__law_rows : FnScope ["many", "found", "k", "row"] ["many"] (defScope st__law_rows) :=
  ⟨rfl, rfl, rfl, by decide +kernel, rfl, by decide +kernel, by decide +kernel⟩
structure T__law_rows (K : PySem.W.Frag) (mg : Str → Option Value) : Prop where
  b_range : mg "range" = none
set_option maxHeartbeats 4000000 in
theorem d__law_rows {P : Program} {w : World} {K : PySem.W.Frag} {mg : Str → Option Value} {base : Heap} {f : Addr} {cdv : Value} {A : Around} {outer : List Env} {s : Shared} {H : Hp} {E : XK} {k : Nat} (T : T__law_rows K mg)
    (hr : Room k (A.deeper (PyProof.Rows.envOfC "_law_rows" (defScope st__law_rows) s.heap.objs.size f cdv))) :
    PFB (cxOf (L2.CX P w) P w K mg base ["many", "found", "k", "row"] "_law_rows" (defScope st__law_rows) f cdv A outer s H E) (fun c d _ H => E c d H) (defBody st__law_rows) (f__law_rows) :=
  pfb_cons (pfs_set (i := 1) sc__law_rows.nd rfl (Or.inl rfl) (pf_lst false (pfa_cons (pf_lst false (pfa_nil)) (pfa_nil))))
    (pfb_cons (pfs_for 100000 (passes_of rfl) rfl (pfi_range1 (by rfl) T.b_range (pfa_cons (pf_var 0) (pfa_nil))) (pfg_name (i := 2) sc__law_rows.nd rfl (Or.inl rfl)) (pfb_one (pfs_set (i := 1) sc__law_rows.nd rfl (Or.inl rfl) (pf_op op_addA (opd_add false) (pf_lc 100000 false [("row", 3)] rfl sc__law_rows.nd (own_name 3) (wipe_wipe1 _) (pfi_seq (pf_var 1)) (blkOk_by (own := [("row", 3)]) (N := ["many", "found", "k", "row"]) (sc := defScope st__law_rows) (by decide +kernel)) (fun _ _ _ _ _ => pg_name (i := 3) sc__law_rows.nd rfl (Or.inl rfl)) (fun _ _ _ _ _ => pfts_nil) (fun _ _ _ _ _ => pf_op op_addA (opd_add false) (pf_var 3) (pf_lst false (pfa_cons (pf_int) (pfa_nil))))) (pf_lc 100000 false [("row", 3)] rfl sc__law_rows.nd (own_name 3) (wipe_wipe1 _) (pfi_seq (pf_var 1)) (blkOk_by (own := [("row", 3)]) (N := ["many", "found", "k", "row"]) (sc := defScope st__law_rows) (by decide +kernel)) (fun _ _ _ _ _ => pg_name (i := 3) sc__law_rows.nd rfl (Or.inl rfl)) (fun _ _ _ _ _ => pfts_nil) (fun _ _ _ _ _ => pf_op op_addA (opd_add false) (pf_var 3) (pf_lst false (pfa_cons (pf_int) (pfa_nil)))))))))
    (pfb_one (pfs_ret (pf_var 1))))
abbrev st_law : Stmt := topS 16
theorem sc_law : FnScope ["script", "dice", "many", "steps", "row", "rows", "flat", "line", "places", "low", "high", "depth", "k", "less", "fails", "one"] ["script"] (defScope st_law) :=
  ⟨rfl, rfl, rfl, by decide +kernel, rfl, by decide +kernel, by decide +kernel⟩
structure T_law (K : PySem.W.Frag) (mg : Str → Option Value) (C_BadSteps : Addr) : Prop where
  b_len : mg "len" = none
  b_list : mg "list" = none
  b_max : mg "max" = none
  b_range : mg "range" = none
  b_sorted : mg "sorted" = none
  e_BadSteps : Exc K mg "BadSteps" C_BadSteps
set_option maxHeartbeats 4000000 in
theorem d_law {P : Program} {w : World} {K : PySem.W.Frag} {mg : Str → Option Value} {base : Heap} {f : Addr} {cdv : Value} {A : Around} {outer : List Env} {s : Shared} {H : Hp} {E : XK} {k : Nat} {C_BadSteps : Addr} {F__law_rounds F__law_roll F_net F_by_net F__law_done F__law_rows F_look_net F_layers F_power : FN} {k__law_rounds k__law_roll k_net k_by_net k__law_done k__law_rows k_look_net k_layers k_power : Nat} {kl : Nat} (T : T_law K mg C_BadSteps)
    (c__law_rounds : Cal P w K mg base "_law_rounds" ["script", "most"] k__law_rounds F__law_rounds) (l__law_rounds : k__law_rounds ≤ k)
    (c__law_roll : Cal P w K mg base "_law_roll" ["dice", "many"] k__law_roll F__law_roll) (l__law_roll : k__law_roll ≤ k)
    (c_net : Cal P w K mg base "net" ["many"] k_net F_net) (l_net : k_net ≤ k)
    (c_by_net : Cal P w K mg base "by_net" ["row", "steps"] k_by_net F_by_net) (l_by_net : k_by_net ≤ k)
    (c__law_done : Cal P w K mg base "_law_done" ["row", "steps"] k__law_done F__law_done) (l__law_done : k__law_done ≤ k)
    (c__law_rows : Cal P w K mg base "_law_rows" ["many"] k__law_rows F__law_rows) (l__law_rows : k__law_rows ≤ k)
    (c_look_net : Cal P w K mg base "look_net" ["steps", "many"] k_look_net F_look_net) (l_look_net : k_look_net ≤ k)
    (c_layers : Cal P w K mg base "layers" ["steps", "many"] k_layers F_layers) (l_layers : k_layers ≤ k)
    (c_power : Cal P w K mg base "power" ["many"] k_power F_power) (l_power : k_power ≤ k)
    (td__law_refused : LamDef K mg "_law_refused" "what" st__law_refused) (M : Maker base mg cdv ("law" ++ ".<locals>." ++ "<lambda>")) (lk : kl + 2 ≤ k) (ll_look_net : k_look_net ≤ kl) (ll_by_net : k_by_net ≤ kl)
    (hr : Room k (A.deeper (PyProof.Rows.envOfC "law" (defScope st_law) s.heap.objs.size f cdv))) :
    PFB (cxOf (L2.CX P w) P w K mg base ["script", "dice", "many", "steps", "row", "rows", "flat", "line", "places", "low", "high", "depth", "k", "less", "fails", "one"] "law" (defScope st_law) f cdv A outer s H E) (fun c d _ H => E c d H) (defBody st_law) (f_law K C_BadSteps F__law_rounds F__law_roll F_net F_by_net F__law_done F__law_rows F_look_net F_layers F_power) :=
  pfb_cons (pfs_for 100000 (passes_of rfl) rfl (pfi_seq (pf_callC c__law_rounds hr l__law_rounds (by rfl) (takes_of rfl rfl rfl rfl) (pfa_cons (pf_var 0) (pfa_cons (pf_int) (pfa_nil))))) (pfg_name (i := 1) sc_law.nd rfl (Or.inr rfl)) (pfb_cons (pfs_set (i := 2) sc_law.nd rfl (Or.inr rfl) (pf_callC c__law_roll hr l__law_roll (by rfl) (takes_of rfl rfl rfl rfl) (pfa_cons (pf_var 1) (pfa_cons (pf_int) (pfa_nil)))))
    (pfb_cons (pfs_asg (pf_tup (pfa_cons (pf_callC c_net hr l_net (by rfl) (takes_of rfl rfl rfl rfl) (pfa_cons (pf_var 2) (pfa_nil))) (pfa_cons (pf_lc 100000 false [("k", 12)] rfl sc_law.nd (own_name 12) (wipe_wipe1 _) (pfi_range1 (by rfl) T.b_range (pfa_cons (pf_var 2) (pfa_nil))) (blkOk_by (own := [("k", 12)]) (N := ["script", "dice", "many", "steps", "row", "rows", "flat", "line", "places", "low", "high", "depth", "k", "less", "fails", "one"]) (sc := defScope st_law) (by decide +kernel)) (fun _ _ _ _ _ => pg_name (i := 12) sc_law.nd rfl (Or.inl rfl)) (fun _ _ _ _ _ => pfts_nil) (fun _ _ _ _ _ => pf_callC c__law_roll hr l__law_roll (by rfl) takes0 (pfa_cons (pf_var 1) (pfa_cons (pf_int) (pfa_nil))))) (pfa_nil)))) (pfg_tup rfl (pfgs_cons (pfg_name (i := 3) sc_law.nd rfl (Or.inr rfl)) (pfgs_cons (pfg_name (i := 4) sc_law.nd rfl (Or.inr rfl)) (pfgs_nil)))))
    (pfb_cons (pfs_if (pft_w (pfw_or (pft_cmp (op_neD hr.units) opd_ne (pf_callTy call_list_of (cd_list false) (by rfl) T.b_list (pfa_cons (pf_callC c_by_net hr l_by_net (by rfl) (takes_of rfl rfl rfl rfl) (pfa_cons (pf_var 4) (pfa_cons (pf_var 3) (pfa_nil)))) (pfa_nil))) (pf_callC c__law_done hr l__law_done (by rfl) (takes_of rfl rfl rfl rfl) (pfa_cons (pf_var 4) (pfa_cons (pf_var 3) (pfa_nil)))) (nomark _)) (pfw_or1 (pft_cmp (op_neD hr.units) opd_ne (pf_callTy call_list_of (cd_list false) (by rfl) T.b_list (pfa_cons (pf_callC c_by_net hr l_by_net (by rfl) (takes_of rfl rfl rfl rfl) (pfa_cons (pf_var 4) (pfa_cons (pf_var 3) (pfa_nil)))) (pfa_nil))) (pf_callB (cr_sortedI.or cr_sortZ) (cd_sortA false) (by rfl) T.b_sorted (pfa_cons (pf_var 4) (pfa_nil))) (nomark _))))) (pfb_one (pfs_ret (pf_bl))) (pfb_nil))
    (pfb_cons (pfs_if (pft_cmp (op_neD hr.units) opd_ne (pf_lc 100000 false [("one", 15)] rfl sc_law.nd (own_name 15) (wipe_wipe1 _) (pfi_seq (pf_callC c__law_rows hr l__law_rows (by rfl) (takes_of rfl rfl rfl rfl) (pfa_cons (pf_var 2) (pfa_nil)))) (blkOk_by (own := [("one", 15)]) (N := ["script", "dice", "many", "steps", "row", "rows", "flat", "line", "places", "low", "high", "depth", "k", "less", "fails", "one"]) (sc := defScope st_law) (by decide +kernel)) (fun _ _ _ _ _ => pg_name (i := 15) sc_law.nd rfl (Or.inl rfl)) (fun _ _ _ _ _ => pfts_one (pft_cmp (op_neD hr.units) opd_ne (pf_callC c__law_done hr l__law_done (by rfl) takes0 (pfa_cons (pf_var 15) (pfa_cons (pf_var 3) (pfa_nil)))) (pf_callB (cr_sortedI.or cr_sortZ) (cd_sortA false) (by rfl) T.b_sorted (pfa_cons (pf_var 15) (pfa_nil))) (nomark _))) (fun _ _ _ _ _ => pf_var 15)) (pf_lst false (pfa_nil)) (nomark _)) (pfb_one (pfs_ret (pf_bl))) (pfb_nil))
    (pfb_cons (pfs_if (pft_tru (pf_refused (st := st__law_refused) td__law_refused rfl sc__law_refused rfl (Or.inl rfl) (fun _ _ _ _ => (.bl ⟨by rfl, by decide, .inl T.e_BadSteps.g⟩ .nil)) (fun _ => rfl) M (by rfl) (hr.mono lk) (LamX.lamS_by (sc := defScope st_law) (by decide +kernel)) rfl (fun _ _ _ _ _ => rfl) (fun A outer s H E f c hr => pf_callC c_look_net hr ll_look_net (by rfl) (takes_of rfl rfl rfl rfl) (pfa_cons (pf_var 3) (pfa_cons (pf_var 2) (pfa_nil)))))) (pfb_one (pfs_ret (pf_bl))) (pfb_nil))
    (pfb_cons (pfs_par (i := 5) (j := 6) rfl sc_law.nd rfl rfl (by decide) rfl rfl (pfa_cons (pf_callC c_layers hr l_layers (by rfl) (takes_of rfl rfl rfl rfl) (pfa_cons (pf_var 3) (pfa_cons (pf_var 2) (pfa_nil)))) (pfa_cons (pf_lst false (pfa_nil)) (pfa_nil))) (by rfl))
    (pfb_cons (pfs_for 100000 (passes_of rfl) rfl (pfi_seq (pf_var 5)) (pfg_name (i := 7) sc_law.nd rfl (Or.inl rfl)) (pfb_cons (pfs_set (i := 8) sc_law.nd rfl (Or.inr rfl) (pf_lst false (pfa_nil)))
    (pfb_cons (pfs_for 100000 (passes_of rfl) rfl (pfi_seq (pf_var 7)) (pfg_tup rfl (pfgs_cons (pfg_name (i := 9) sc_law.nd rfl (Or.inl rfl)) (pfgs_cons (pfg_name (i := 10) sc_law.nd rfl (Or.inl rfl)) (pfgs_nil)))) (pfb_one (pfs_set (i := 8) sc_law.nd rfl (Or.inr rfl) (pf_op op_addA (opd_add false) (pf_var 8) (pf_lst false (pfa_cons (pf_var 9) (pfa_cons (pf_var 10) (pfa_nil))))))))
    (pfb_cons (pfs_if (pft_cmp (op_neD hr.units) opd_ne (pf_callB call_lenA cd_len (by rfl) T.b_len (pfa_cons (pf_var 8) (pfa_nil))) (pf_callB call_lenA cd_len (by rfl) T.b_len (pfa_cons (pf_lc 100000 false [("k", 12)] rfl sc_law.nd (own_name 12) (wipe_wipe1 _) (pfi_range1 (by rfl) T.b_range (pfa_cons (pf_callB call_lenA cd_len (by rfl) T.b_len (pfa_cons (pf_var 8) (pfa_nil))) (pfa_nil))) (blkOk_by (own := [("k", 12)]) (N := ["script", "dice", "many", "steps", "row", "rows", "flat", "line", "places", "low", "high", "depth", "k", "less", "fails", "one"]) (sc := defScope st_law) (by decide +kernel)) (fun _ _ _ _ _ => pg_name (i := 12) sc_law.nd rfl (Or.inl rfl)) (fun _ _ _ _ _ => pfts_one (pft_cmp op_notIn_seq opd_notin (pf_ix (pf_var 8) (pf_var 12)) (pf_sl false (pf_var 8) (pfo_none) (pfo_some (pf_var 12))) (by rfl))) (fun _ _ _ _ _ => pf_var 12)) (pfa_nil))) (nomark _)) (pfb_one (pfs_ret (pf_bl))) (pfb_nil))
    (pfb_one (pfs_set (i := 6) sc_law.nd rfl (Or.inl rfl) (pf_op op_addA (opd_add false) (pf_var 6) (pf_callTy call_list_of (cd_list false) (by rfl) T.b_list (pfa_cons (pf_var 7) (pfa_nil))))))))))
    (pfb_cons (pfs_if (pft_w (pfw_or (pft_cmp (op_neD hr.units) opd_ne (pf_callB (cr_sortedI.or cr_sortZ) (cd_sortA false) (by rfl) T.b_sorted (pfa_cons (pf_var 6) (pfa_nil))) (pf_callB (cr_sortedI.or cr_sortZ) (cd_sortA false) (by rfl) T.b_sorted (pfa_cons (pf_var 3) (pfa_nil))) (nomark _)) (pfw_or1 (pft_cmp (op_neD hr.units) opd_ne (pf_callC c__law_done hr l__law_done (by rfl) (takes_of rfl rfl rfl rfl) (pfa_cons (pf_var 4) (pfa_cons (pf_var 6) (pfa_nil)))) (pf_callB (cr_sortedI.or cr_sortZ) (cd_sortA false) (by rfl) T.b_sorted (pfa_cons (pf_var 4) (pfa_nil))) (nomark _))))) (pfb_one (pfs_ret (pf_bl))) (pfb_nil))
    (pfb_cons (pfs_set (i := 11) sc_law.nd rfl (Or.inl rfl) (pf_op op_mulA (opd_mul true) (pf_lst false (pfa_cons (pf_int) (pfa_nil))) (pf_var 2)))
    (pfb_cons (pfs_for 100000 (passes_of rfl) rfl (pfi_seq (pf_var 3)) (pfg_tup rfl (pfgs_cons (pfg_name (i := 9) sc_law.nd rfl (Or.inl rfl)) (pfgs_cons (pfg_name (i := 10) sc_law.nd rfl (Or.inl rfl)) (pfgs_nil)))) (pfb_cons (pfs_asg (pf_op op_addA (opd_add false) (pf_int) (pf_callB (call_maxA rfl) cd_max (by rfl) T.b_max (pfa_cons (pf_ix (pf_var 11) (pf_var 9)) (pfa_cons (pf_ix (pf_var 11) (pf_var 10)) (pfa_nil))))) (pfg_sub (Wx := F0) (pf_var 11) (pf_var 9)))
    (pfb_one (pfs_asg (pf_ix (pf_var 11) (pf_var 9)) (pfg_sub (Wx := F0) (pf_var 11) (pf_var 10))))))
    (pfb_cons (pfs_if (pft_w (pfw_or (pft_cmp (op_neD hr.units) opd_ne (pf_callB call_lenA cd_len (by rfl) T.b_len (pfa_cons (pf_var 5) (pfa_nil))) (pf_callB (call_maxA rfl) cd_max (by rfl) T.b_max (pfa_cons (pf_op op_addA (opd_add false) (pf_var 11) (pf_lst false (pfa_cons (pf_int) (pfa_nil)))) (pfa_nil))) (nomark _)) (pfw_or1 (pft_cmp (op_neD hr.units) opd_ne (pf_callC c_power hr l_power (by rfl) (takes_of rfl rfl rfl rfl) (pfa_cons (pf_var 2) (pfa_nil))) (pf_callB call_lenA cd_len (by rfl) T.b_len (pfa_cons (pf_callC c__law_rows hr l__law_rows (by rfl) (takes_of rfl rfl rfl rfl) (pfa_cons (pf_var 2) (pfa_nil))) (pfa_nil))) (nomark _))))) (pfb_one (pfs_ret (pf_bl))) (pfb_nil))
    (pfb_cons (pfs_if (pft_cmp (op_neD hr.units) opd_ne (pf_var 3) (pf_tup (pfa_nil)) (nomark _)) (pfb_cons (pfs_set (i := 12) sc_law.nd rfl (Or.inl rfl) (pf_callC c__law_roll hr l__law_roll (by rfl) (takes_of rfl rfl rfl rfl) (pfa_cons (pf_var 1) (pfa_cons (pf_callB call_lenA cd_len (by rfl) T.b_len (pfa_cons (pf_var 3) (pfa_nil))) (pfa_nil)))))
    (pfb_cons (pfs_set (i := 13) sc_law.nd rfl (Or.inr rfl) (pf_op op_addA (opd_add false) (pf_sl false (pf_var 3) (pfo_none) (pfo_some (pf_var 12))) (pf_sl false (pf_var 3) (pfo_some (pf_op op_addA (opd_add false) (pf_var 12) (pf_int))) (pfo_none))))
    (pfb_cons (pfs_set (i := 14) sc_law.nd rfl (Or.inl rfl) (pf_cmp (op_neD hr.units) opd_ne (pf_lc 100000 false [("one", 15)] rfl sc_law.nd (own_name 15) (wipe_wipe1 _) (pfi_seq (pf_callC c__law_rows hr l__law_rows (by rfl) (takes_of rfl rfl rfl rfl) (pfa_cons (pf_var 2) (pfa_nil)))) (blkOk_by (own := [("one", 15)]) (N := ["script", "dice", "many", "steps", "row", "rows", "flat", "line", "places", "low", "high", "depth", "k", "less", "fails", "one"]) (sc := defScope st_law) (by decide +kernel)) (fun _ _ _ _ _ => pg_name (i := 15) sc_law.nd rfl (Or.inl rfl)) (fun _ _ _ _ _ => pfts_one (pft_cmp (op_neD hr.units) opd_ne (pf_callC c__law_done hr l__law_done (by rfl) takes0 (pfa_cons (pf_var 15) (pfa_cons (pf_var 13) (pfa_nil)))) (pf_callB (cr_sortedI.or cr_sortZ) (cd_sortA false) (by rfl) T.b_sorted (pfa_cons (pf_var 15) (pfa_nil))) (nomark _))) (fun _ _ _ _ _ => pf_var 15)) (pf_lst false (pfa_nil)) (nomark _)))
    (pfb_one (pfs_if (pft_cmp (op_neD hr.units) opd_ne (pf_refused (st := st__law_refused) td__law_refused rfl sc__law_refused rfl (Or.inl rfl) (fun _ _ _ _ => (.bl ⟨by rfl, by decide, .inl T.e_BadSteps.g⟩ .nil)) (fun _ => rfl) M (by rfl) (hr.mono lk) (LamX.lamS_by (sc := defScope st_law) (by decide +kernel)) rfl (fun _ _ _ _ _ => rfl) (fun A outer s H E f c hr => pf_callC c_look_net hr ll_look_net (by rfl) (takes_of rfl rfl rfl rfl) (pfa_cons (pf_var 13) (pfa_cons (pf_var 2) (pfa_nil))))) (pf_var 14) (nomark _)) (pfb_one (pfs_ret (pf_bl))) (pfb_nil)))))) (pfb_nil))
    (pfb_cons (pfs_if (pft_not (pft_tru (pf_refused (st := st__law_refused) td__law_refused rfl sc__law_refused rfl (Or.inl rfl) (fun _ _ _ _ => (.bl ⟨by rfl, by decide, .inl T.e_BadSteps.g⟩ .nil)) (fun _ => rfl) M (by rfl) (hr.mono lk) (LamX.lamS_by (sc := defScope st_law) (by decide +kernel)) rfl (fun _ _ _ _ _ => rfl) (fun A outer s H E f c hr => pf_callC c_by_net hr ll_by_net (by rfl) (takes_of rfl rfl rfl rfl) (pfa_cons (pf_var 4) (pfa_cons (pf_tup (pfa_cons (pf_tup (pfa_cons (pf_int) (pfa_cons (pf_var 2) (pfa_nil)))) (pfa_nil))) (pfa_nil))))))) (pfb_one (pfs_ret (pf_bl))) (pfb_nil))
    (pfb_one (pfs_if (pft_w (pfw_and (pft_cmp (op_gtA hr.units0) opd_gtA (pf_var 2) (pf_int) (nomark _)) (pfw_and1 (pft_not (pft_tru (pf_refused (st := st__law_refused) td__law_refused rfl sc__law_refused rfl (Or.inl rfl) (fun _ _ _ _ => (.bl ⟨by rfl, by decide, .inl T.e_BadSteps.g⟩ .nil)) (fun _ => rfl) M (by rfl) (hr.mono lk) (LamX.lamS_by (sc := defScope st_law) (by decide +kernel)) rfl (fun _ _ _ _ _ => rfl) (fun A outer s H E f c hr => pf_callC c_by_net hr ll_by_net (by rfl) (takes_of rfl rfl rfl rfl) (pfa_cons (pf_var 4) (pfa_cons (pf_tup (pfa_cons (pf_tup (pfa_cons (pf_int) (pfa_cons (pf_int) (pfa_nil)))) (pfa_nil))) (pfa_nil)))))))))) (pfb_one (pfs_ret (pf_bl))) (pfb_nil)))))))))))))))))
    (pfb_one (pfs_ret (pf_bl)))
section oks
variable {P : Program} {w : World} {K : PySem.W.Frag} {mg : Str → Option Value} {base : Heap} {f : Addr} {fd : FuncData} {C_BadSteps : Addr}
theorem ok_net (R : Fun K "net" "net" st_net f fd) (T : T_net K mg) :
    FnOk P w K mg base (L2.CX P w) 1 f fd ["many"] (spD K F_net 1) :=
  fn_run (k := 0) R sc_net (fun cdv A outer s H E hr => d_net T hr)
theorem ok_by_net (R : Fun K "by_net" "by_net" st_by_net f fd) (T : T_by_net K mg C_BadSteps) :
    FnOk P w K mg base (L2.CX P w) 1 f fd ["row", "steps"] (spD K (F_by_net C_BadSteps) 2) :=
  fn_run (k := 0) R sc_by_net (fun cdv A outer s H E hr => d_by_net T hr)
theorem ok_power (R : Fun K "power" "power" st_power f fd) (T : T_power K mg) :
    FnOk P w K mg base (L2.CX P w) 1 f fd ["many"] (spD K F_power 1) :=
  fn_run (k := 0) R sc_power (fun cdv A outer s H E hr => d_power T hr)
theorem ok_look_net (R : Fun K "look_net" "look_net" st_look_net f fd) (T : T_look_net K mg C_BadSteps)
    (c_power : Cal P w K mg base "power" ["many"] 1 F_power)
    (c_by_net : Cal P w K mg base "by_net" ["row", "steps"] 1 (F_by_net C_BadSteps)) :
    FnOk P w K mg base (L2.CX P w) 2 f fd ["steps", "many"] (spD K (F_look_net C_BadSteps) 2) :=
  fn_run (k := 1) R sc_look_net (fun cdv A outer s H E hr => d_look_net T c_power (by decide) c_by_net (by decide) hr)
theorem ok_layers (R : Fun K "layers" "layers" st_layers f fd) (T : T_layers K mg) :
    FnOk P w K mg base (L2.CX P w) 1 f fd ["steps", "many"] (spD K F_layers 2) :=
  fn_run (k := 0) R sc_layers (fun cdv A outer s H E hr => d_layers T hr)
theorem ok__law_dice (R : Fun K "_law_dice" "_law_dice" st__law_dice f fd) (T : T__law_dice K mg) :
    FnOk P w K mg base (L2.CX P w) 1 f fd ["cell"] (spD K F__law_dice 1) :=
  fn_run (k := 0) R sc__law_dice (fun cdv A outer s H E hr => d__law_dice T hr)
theorem ok__law_roll (R : Fun K "_law_roll" "_law_roll" st__law_roll f fd) (T : T__law_roll K mg) :
    FnOk P w K mg base (L2.CX P w) 1 f fd ["dice", "many"] (spD K F__law_roll 2) :=
  fn_run (k := 0) R sc__law_roll (fun cdv A outer s H E hr => d__law_roll T hr)
theorem ok__law_rounds (R : Fun K "_law_rounds" "_law_rounds" st__law_rounds f fd) (T : T__law_rounds K mg)
    (c__law_dice : Cal P w K mg base "_law_dice" ["cell"] 1 F__law_dice) :
    FnOk P w K mg base (L2.CX P w) 2 f fd ["script", "most"] (spD K F__law_rounds 2) :=
  fn_run (k := 1) R sc__law_rounds (fun cdv A outer s H E hr => d__law_rounds T c__law_dice (by decide) hr)
theorem ok__law_done (R : Fun K "_law_done" "_law_done" st__law_done f fd) (T : T__law_done K mg) :
    FnOk P w K mg base (L2.CX P w) 1 f fd ["row", "steps"] (spD K F__law_done 2) :=
  fn_run (k := 0) R sc__law_done (fun cdv A outer s H E hr => d__law_done T hr)
theorem ok__law_rows (R : Fun K "_law_rows" "_law_rows" st__law_rows f fd) (T : T__law_rows K mg) :
    FnOk P w K mg base (L2.CX P w) 1 f fd ["many"] (spD K F__law_rows 1) :=
  fn_run (k := 0) R sc__law_rows (fun cdv A outer s H E hr => d__law_rows T hr)
theorem ok_law (R : Fun K "law" "law" st_law f fd) (T : T_law K mg C_BadSteps)
    (c__law_rounds : Cal P w K mg base "_law_rounds" ["script", "most"] 2 F__law_rounds)
    (c__law_roll : Cal P w K mg base "_law_roll" ["dice", "many"] 1 F__law_roll)
    (c_net : Cal P w K mg base "net" ["many"] 1 F_net)
    (c_by_net : Cal P w K mg base "by_net" ["row", "steps"] 1 (F_by_net C_BadSteps))
    (c__law_done : Cal P w K mg base "_law_done" ["row", "steps"] 1 F__law_done)
    (c__law_rows : Cal P w K mg base "_law_rows" ["many"] 1 F__law_rows)
    (c_look_net : Cal P w K mg base "look_net" ["steps", "many"] 2 (F_look_net C_BadSteps))
    (c_layers : Cal P w K mg base "layers" ["steps", "many"] 1 F_layers)
    (c_power : Cal P w K mg base "power" ["many"] 1 F_power)
    (td__law_refused : LamDef K mg "_law_refused" "what" st__law_refused) (M : Maker base mg fd.code (("law" : Str) ++ ".<locals>." ++ "<lambda>")) :
    FnOk P w K mg base (L2.CX P w) 5 f fd ["script"] (spD K (F_law K C_BadSteps) 1) :=
  fn_runC (k := 4) R sc_law (fun A outer s H E hr => d_law T c__law_rounds (by decide) c__law_roll (by decide) c_net (by decide) c_by_net (by decide) c__law_done (by decide) c__law_rows (by decide) c_look_net (by decide) c_layers (by decide) c_power (by decide) td__law_refused M (kl := 2) (by decide) (by decide) (by decide) hr)
end oks
end Law

namespace Law
open PySem L2 PF
variable [Tab]
set_option maxHeartbeats 4000000 in
theorem all_mk {P : Program} {w : World} {K : PySem.W.Frag} {h : Heap} {mg : Str → Option Value} {fa a_net a_by_net a_power a_look_net a_layers a__law_dice a__law_roll a__law_rounds a__law_refused a__law_done a__law_rows a_law C_BadSteps : Addr} {od_net an_net od_by_net an_by_net od_power an_power od_look_net an_look_net od_layers an_layers od__law_dice an__law_dice od__law_roll an__law_roll od__law_rounds an__law_rounds od__law_refused an__law_refused od__law_done an__law_done od__law_rows an__law_rows od_law an_law : Option Addr} {sl_net sl_by_net sl_power sl_look_net sl_layers sl__law_dice sl__law_roll sl__law_rounds sl__law_refused sl__law_done sl__law_rows sl_law : Array (Option Value)} {oc_net kV_net dc_net pm_net cd_net ct_net oc_by_net kV_by_net dc_by_net pm_by_net cd_by_net ct_by_net oc_power kV_power dc_power pm_power cd_power ct_power oc_look_net kV_look_net dc_look_net pm_look_net cd_look_net ct_look_net oc_layers kV_layers dc_layers pm_layers cd_layers ct_layers oc__law_dice kV__law_dice dc__law_dice pm__law_dice cd__law_dice ct__law_dice oc__law_roll kV__law_roll dc__law_roll pm__law_roll cd__law_roll ct__law_roll oc__law_rounds kV__law_rounds dc__law_rounds pm__law_rounds cd__law_rounds ct__law_rounds oc__law_refused kV__law_refused dc__law_refused pm__law_refused cd__law_refused ct__law_refused oc__law_done kV__law_done dc__law_done pm__law_done cd__law_done ct__law_done oc__law_rows kV__law_rows dc__law_rows pm__law_rows cd__law_rows ct__law_rows oc_law kV_law dc_law pm_law cd_law ct_law : Value} (X : K.In h) (G : h.Ns mainGlobals mg) (hfa : mg "law" = some (.ref fa))
    (g_net : PySem.W.nsIn K mainGlobals "net" = some (some (.ref a_net)))
    (l_net : K.lookup a_net = some ⟨oc_net, od_net, .func (PySem.W.fnOf "net" "net" (defArgs st_net) (defBody st_net) (defScope st_net) .none kV_net dc_net pm_net an_net cd_net ct_net), sl_net⟩)
    (c_net : PySem.W.codeIn K cd_net "net" = true)
    (k_net : PySem.W.keepIn K (.ref a_net) = true)
    (g_by_net : PySem.W.nsIn K mainGlobals "by_net" = some (some (.ref a_by_net)))
    (l_by_net : K.lookup a_by_net = some ⟨oc_by_net, od_by_net, .func (PySem.W.fnOf "by_net" "by_net" (defArgs st_by_net) (defBody st_by_net) (defScope st_by_net) .none kV_by_net dc_by_net pm_by_net an_by_net cd_by_net ct_by_net), sl_by_net⟩)
    (c_by_net : PySem.W.codeIn K cd_by_net "by_net" = true)
    (k_by_net : PySem.W.keepIn K (.ref a_by_net) = true)
    (g_power : PySem.W.nsIn K mainGlobals "power" = some (some (.ref a_power)))
    (l_power : K.lookup a_power = some ⟨oc_power, od_power, .func (PySem.W.fnOf "power" "power" (defArgs st_power) (defBody st_power) (defScope st_power) .none kV_power dc_power pm_power an_power cd_power ct_power), sl_power⟩)
    (c_power : PySem.W.codeIn K cd_power "power" = true)
    (k_power : PySem.W.keepIn K (.ref a_power) = true)
    (g_look_net : PySem.W.nsIn K mainGlobals "look_net" = some (some (.ref a_look_net)))
    (l_look_net : K.lookup a_look_net = some ⟨oc_look_net, od_look_net, .func (PySem.W.fnOf "look_net" "look_net" (defArgs st_look_net) (defBody st_look_net) (defScope st_look_net) .none kV_look_net dc_look_net pm_look_net an_look_net cd_look_net ct_look_net), sl_look_net⟩)
    (c_look_net : PySem.W.codeIn K cd_look_net "look_net" = true)
    (k_look_net : PySem.W.keepIn K (.ref a_look_net) = true)
    (g_layers : PySem.W.nsIn K mainGlobals "layers" = some (some (.ref a_layers)))
    (l_layers : K.lookup a_layers = some ⟨oc_layers, od_layers, .func (PySem.W.fnOf "layers" "layers" (defArgs st_layers) (defBody st_layers) (defScope st_layers) .none kV_layers dc_layers pm_layers an_layers cd_layers ct_layers), sl_layers⟩)
    (c_layers : PySem.W.codeIn K cd_layers "layers" = true)
    (k_layers : PySem.W.keepIn K (.ref a_layers) = true)
    (g__law_dice : PySem.W.nsIn K mainGlobals "_law_dice" = some (some (.ref a__law_dice)))
    (l__law_dice : K.lookup a__law_dice = some ⟨oc__law_dice, od__law_dice, .func (PySem.W.fnOf "_law_dice" "_law_dice" (defArgs st__law_dice) (defBody st__law_dice) (defScope st__law_dice) .none kV__law_dice dc__law_dice pm__law_dice an__law_dice cd__law_dice ct__law_dice), sl__law_dice⟩)
    (c__law_dice : PySem.W.codeIn K cd__law_dice "_law_dice" = true)
    (k__law_dice : PySem.W.keepIn K (.ref a__law_dice) = true)
    (g__law_roll : PySem.W.nsIn K mainGlobals "_law_roll" = some (some (.ref a__law_roll)))
    (l__law_roll : K.lookup a__law_roll = some ⟨oc__law_roll, od__law_roll, .func (PySem.W.fnOf "_law_roll" "_law_roll" (defArgs st__law_roll) (defBody st__law_roll) (defScope st__law_roll) .none kV__law_roll dc__law_roll pm__law_roll an__law_roll cd__law_roll ct__law_roll), sl__law_roll⟩)
    (c__law_roll : PySem.W.codeIn K cd__law_roll "_law_roll" = true)
    (k__law_roll : PySem.W.keepIn K (.ref a__law_roll) = true)
    (g__law_rounds : PySem.W.nsIn K mainGlobals "_law_rounds" = some (some (.ref a__law_rounds)))
    (l__law_rounds : K.lookup a__law_rounds = some ⟨oc__law_rounds, od__law_rounds, .func (PySem.W.fnOf "_law_rounds" "_law_rounds" (defArgs st__law_rounds) (defBody st__law_rounds) (defScope st__law_rounds) .none kV__law_rounds dc__law_rounds pm__law_rounds an__law_rounds cd__law_rounds ct__law_rounds), sl__law_rounds⟩)
    (c__law_rounds : PySem.W.codeIn K cd__law_rounds "_law_rounds" = true)
    (k__law_rounds : PySem.W.keepIn K (.ref a__law_rounds) = true)
    (g__law_refused : PySem.W.nsIn K mainGlobals "_law_refused" = some (some (.ref a__law_refused)))
    (l__law_refused : K.lookup a__law_refused = some ⟨oc__law_refused, od__law_refused, .func (PySem.W.fnOf "_law_refused" "_law_refused" (defArgs st__law_refused) (defBody st__law_refused) (defScope st__law_refused) .none kV__law_refused dc__law_refused pm__law_refused an__law_refused cd__law_refused ct__law_refused), sl__law_refused⟩)
    (c__law_refused : PySem.W.codeIn K cd__law_refused "_law_refused" = true)
    (k__law_refused : PySem.W.keepIn K (.ref a__law_refused) = true)
    (g__law_done : PySem.W.nsIn K mainGlobals "_law_done" = some (some (.ref a__law_done)))
    (l__law_done : K.lookup a__law_done = some ⟨oc__law_done, od__law_done, .func (PySem.W.fnOf "_law_done" "_law_done" (defArgs st__law_done) (defBody st__law_done) (defScope st__law_done) .none kV__law_done dc__law_done pm__law_done an__law_done cd__law_done ct__law_done), sl__law_done⟩)
    (c__law_done : PySem.W.codeIn K cd__law_done "_law_done" = true)
    (k__law_done : PySem.W.keepIn K (.ref a__law_done) = true)
    (g__law_rows : PySem.W.nsIn K mainGlobals "_law_rows" = some (some (.ref a__law_rows)))
    (l__law_rows : K.lookup a__law_rows = some ⟨oc__law_rows, od__law_rows, .func (PySem.W.fnOf "_law_rows" "_law_rows" (defArgs st__law_rows) (defBody st__law_rows) (defScope st__law_rows) .none kV__law_rows dc__law_rows pm__law_rows an__law_rows cd__law_rows ct__law_rows), sl__law_rows⟩)
    (c__law_rows : PySem.W.codeIn K cd__law_rows "_law_rows" = true)
    (k__law_rows : PySem.W.keepIn K (.ref a__law_rows) = true)
    (g_law : PySem.W.nsIn K mainGlobals "law" = some (some (.ref a_law)))
    (l_law : K.lookup a_law = some ⟨oc_law, od_law, .func (PySem.W.fnOf "law" "law" (defArgs st_law) (defBody st_law) (defScope st_law) .none kV_law dc_law pm_law an_law cd_law ct_law), sl_law⟩)
    (c_law : PySem.W.codeIn K cd_law "law" = true)
    (k_law : PySem.W.keepIn K (.ref a_law) = true)
    (eg_BadSteps : PySem.W.nsIn K mainGlobals "BadSteps" = some (some (.ref C_BadSteps)))
    (eq_BadSteps : PySem.W.excIn K C_BadSteps [.type "ValueError", .type "Exception", .type "BaseException", .type "object"] "ValueError.__new__" = true)
    (ek_BadSteps : PySem.W.keepIn K (.ref C_BadSteps) = true)
    (eb_BadSteps : PySem.W.subIn K (.ref C_BadSteps) (.type "BaseException") = some true)
    (et_BadSteps : PySem.W.typeIn K (.ref C_BadSteps) = some (.type "type"))
    (x_BadSteps_BadSteps : PySem.W.exmOne K (.ref C_BadSteps) (.ref C_BadSteps) = some true)
    (b_abs : PySem.W.nsIn K mainGlobals "abs" = some none)
    (b_int : PySem.W.nsIn K mainGlobals "int" = some none)
    (b_len : PySem.W.nsIn K mainGlobals "len" = some none)
    (b_list : PySem.W.nsIn K mainGlobals "list" = some none)
    (b_max : PySem.W.nsIn K mainGlobals "max" = some none)
    (b_range : PySem.W.nsIn K mainGlobals "range" = some none)
    (b_sorted : PySem.W.nsIn K mainGlobals "sorted" = some none)
    (b_str : PySem.W.nsIn K mainGlobals "str" = some none)
    (b_tuple : PySem.W.nsIn K mainGlobals "tuple" = some none) :
    ∃ fd : FuncData, (∀ (s : Shared) (v : Value), BindsTo s fd ⟨[v], []⟩ [("script", v)]) ∧ ∀ base : Heap, K.In base → base.Ns mainGlobals mg → Maker base mg cd_law (("law" : Str) ++ ".<locals>." ++ "<lambda>") → FnOk P w K mg base (L2.CX P w) 5 fa fd ["script"] (VF.spL K) := by
  have ee := hfa.symm.trans (PySem.W.mg_of X G g_law)
  cases ee
  have E_BadSteps : Exc K mg "BadSteps" C_BadSteps := ⟨PySem.W.mg_of X G eg_BadSteps, eq_BadSteps, ek_BadSteps, eb_BadSteps, et_BadSteps⟩
  have B_abs := PySem.W.mg_none_of X G b_abs
  have B_int := PySem.W.mg_none_of X G b_int
  have B_len := PySem.W.mg_none_of X G b_len
  have B_list := PySem.W.mg_none_of X G b_list
  have B_max := PySem.W.mg_none_of X G b_max
  have B_range := PySem.W.mg_none_of X G b_range
  have B_sorted := PySem.W.mg_none_of X G b_sorted
  have B_str := PySem.W.mg_none_of X G b_str
  have B_tuple := PySem.W.mg_none_of X G b_tuple
  have R_net := fun_mk (st := st_net) l_net c_net k_net
  have R_by_net := fun_mk (st := st_by_net) l_by_net c_by_net k_by_net
  have R_power := fun_mk (st := st_power) l_power c_power k_power
  have R_look_net := fun_mk (st := st_look_net) l_look_net c_look_net k_look_net
  have R_layers := fun_mk (st := st_layers) l_layers c_layers k_layers
  have R__law_dice := fun_mk (st := st__law_dice) l__law_dice c__law_dice k__law_dice
  have R__law_roll := fun_mk (st := st__law_roll) l__law_roll c__law_roll k__law_roll
  have R__law_rounds := fun_mk (st := st__law_rounds) l__law_rounds c__law_rounds k__law_rounds
  have R__law_refused := fun_mk (st := st__law_refused) l__law_refused c__law_refused k__law_refused
  have R__law_done := fun_mk (st := st__law_done) l__law_done c__law_done k__law_done
  have R__law_rows := fun_mk (st := st__law_rows) l__law_rows c__law_rows k__law_rows
  have R_law := fun_mk (st := st_law) l_law c_law k_law
  refine ⟨PySem.W.fnOf "law" "law" (defArgs st_law) (defBody st_law) (defScope st_law) .none kV_law dc_law pm_law an_law cd_law ct_law, fun s v => .of_eq rfl, fun base _ _ M => ?_⟩
  have K_net : Cal P w K mg base "net" ["many"] 1 F_net := ⟨_, _, PySem.W.mg_of X G g_net, k_net, R_net.binds (ps := ["many"]) (fun _ _ _ _ _ _ us hl => match us, hl with | [_], _ => rfl), ok_net R_net ⟨B_range, B_tuple⟩  ⟩
  have K_by_net : Cal P w K mg base "by_net" ["row", "steps"] 1 (F_by_net C_BadSteps) := ⟨_, _, PySem.W.mg_of X G g_by_net, k_by_net, R_by_net.binds (ps := ["row", "steps"]) (fun _ _ _ _ _ _ us hl => match us, hl with | [_, _], _ => rfl), ok_by_net R_by_net ⟨B_len, B_list, B_tuple, E_BadSteps⟩  ⟩
  have K_power : Cal P w K mg base "power" ["many"] 1 F_power := ⟨_, _, PySem.W.mg_of X G g_power, k_power, R_power.binds (ps := ["many"]) (fun _ _ _ _ _ _ us hl => match us, hl with | [_], _ => rfl), ok_power R_power ⟨B_range⟩  ⟩
  have K_look_net : Cal P w K mg base "look_net" ["steps", "many"] 2 (F_look_net C_BadSteps) := ⟨_, _, PySem.W.mg_of X G g_look_net, k_look_net, R_look_net.binds (ps := ["steps", "many"]) (fun _ _ _ _ _ _ us hl => match us, hl with | [_, _], _ => rfl), ok_look_net R_look_net ⟨B_range, B_sorted, B_str, B_tuple, E_BadSteps⟩ K_power K_by_net ⟩
  have K_layers : Cal P w K mg base "layers" ["steps", "many"] 1 F_layers := ⟨_, _, PySem.W.mg_of X G g_layers, k_layers, R_layers.binds (ps := ["steps", "many"]) (fun _ _ _ _ _ _ us hl => match us, hl with | [_, _], _ => rfl), ok_layers R_layers ⟨B_len, B_max, B_tuple⟩  ⟩
  have K__law_dice : Cal P w K mg base "_law_dice" ["cell"] 1 F__law_dice := ⟨_, _, PySem.W.mg_of X G g__law_dice, k__law_dice, R__law_dice.binds (ps := ["cell"]) (fun _ _ _ _ _ _ us hl => match us, hl with | [_], _ => rfl), ok__law_dice R__law_dice ⟨B_abs, B_int⟩  ⟩
  have K__law_roll : Cal P w K mg base "_law_roll" ["dice", "many"] 1 F__law_roll := ⟨_, _, PySem.W.mg_of X G g__law_roll, k__law_roll, R__law_roll.binds (ps := ["dice", "many"]) (fun _ _ _ _ _ _ us hl => match us, hl with | [_, _], _ => rfl), ok__law_roll R__law_roll ⟨B_int⟩  ⟩
  have K__law_rounds : Cal P w K mg base "_law_rounds" ["script", "most"] 2 F__law_rounds := ⟨_, _, PySem.W.mg_of X G g__law_rounds, k__law_rounds, R__law_rounds.binds (ps := ["script", "most"]) (fun _ _ _ _ _ _ us hl => match us, hl with | [_, _], _ => rfl), ok__law_rounds R__law_rounds ⟨trivial⟩ K__law_dice ⟩
  have TD__law_refused : LamDef K mg "_law_refused" "what" st__law_refused := ⟨_, _, _, _, _, _, _, _, _, _, PySem.W.mg_of X G g__law_refused, k__law_refused, l__law_refused, c__law_refused, R__law_refused.binds (ps := ["what"]) (fun _ _ _ _ _ _ us hl => match us, hl with | [_], _ => rfl)⟩
  have K__law_done : Cal P w K mg base "_law_done" ["row", "steps"] 1 F__law_done := ⟨_, _, PySem.W.mg_of X G g__law_done, k__law_done, R__law_done.binds (ps := ["row", "steps"]) (fun _ _ _ _ _ _ us hl => match us, hl with | [_, _], _ => rfl), ok__law_done R__law_done ⟨trivial⟩  ⟩
  have K__law_rows : Cal P w K mg base "_law_rows" ["many"] 1 F__law_rows := ⟨_, _, PySem.W.mg_of X G g__law_rows, k__law_rows, R__law_rows.binds (ps := ["many"]) (fun _ _ _ _ _ _ us hl => match us, hl with | [_], _ => rfl), ok__law_rows R__law_rows ⟨B_range⟩  ⟩
  exact (ok_law R_law ⟨B_len, B_list, B_max, B_range, B_sorted, E_BadSteps⟩ K__law_rounds K__law_roll K_net K_by_net K__law_done K__law_rows K_look_net K_layers K_power  TD__law_refused M).imp (VF.spL_of fun ns hl => by
    obtain ⟨os, hos⟩ := law_true (K := K) (C_BadSteps := C_BadSteps) (⟨x_BadSteps_BadSteps⟩ : Xf K C_BadSteps) ns hl
    exact VF.law_of (n_law K C_BadSteps) hos)
omit [Tab] in
set_option maxHeartbeats 4000000 in
theorem all_mkT {P0 : Program} {w : World} {K : PySem.W.Frag} {h : Heap} {mg : Str → Option Value} {fa a_net a_by_net a_power a_look_net a_layers a__law_dice a__law_roll a__law_rounds a__law_refused a__law_done a__law_rows a_law C_BadSteps : Addr} {od_net an_net od_by_net an_by_net od_power an_power od_look_net an_look_net od_layers an_layers od__law_dice an__law_dice od__law_roll an__law_roll od__law_rounds an__law_rounds od__law_refused an__law_refused od__law_done an__law_done od__law_rows an__law_rows od_law an_law : Option Addr} {sl_net sl_by_net sl_power sl_look_net sl_layers sl__law_dice sl__law_roll sl__law_rounds sl__law_refused sl__law_done sl__law_rows sl_law : Array (Option Value)} {oc_net kV_net dc_net pm_net cd_net ct_net oc_by_net kV_by_net dc_by_net pm_by_net cd_by_net ct_by_net oc_power kV_power dc_power pm_power cd_power ct_power oc_look_net kV_look_net dc_look_net pm_look_net cd_look_net ct_look_net oc_layers kV_layers dc_layers pm_layers cd_layers ct_layers oc__law_dice kV__law_dice dc__law_dice pm__law_dice cd__law_dice ct__law_dice oc__law_roll kV__law_roll dc__law_roll pm__law_roll cd__law_roll ct__law_roll oc__law_rounds kV__law_rounds dc__law_rounds pm__law_rounds cd__law_rounds ct__law_rounds oc__law_refused kV__law_refused dc__law_refused pm__law_refused cd__law_refused ct__law_refused oc__law_done kV__law_done dc__law_done pm__law_done cd__law_done ct__law_done oc__law_rows kV__law_rows dc__law_rows pm__law_rows cd__law_rows ct__law_rows oc_law kV_law dc_law pm_law cd_law ct_law : Value} {c : Addr} {ts : List Addr} (X : K.In h) (G : h.Ns mainGlobals mg) (hfa : mg "law" = some (.ref fa)) (hts : ∀ P ∈ ts, h.get? P = some (PySem.W.tabObj #[]))
    (g_net : PySem.W.nsIn K mainGlobals "net" = some (some (.ref a_net)))
    (l_net : K.lookup a_net = some ⟨oc_net, od_net, .func (PySem.W.fnOf "net" "net" (defArgs st_net) (defBody st_net) (defScope st_net) .none kV_net dc_net pm_net an_net cd_net ct_net), sl_net⟩)
    (c_net : PySem.W.codeIn K cd_net "net" = true)
    (k_net : PySem.W.keepIn K (.ref a_net) = true)
    (g_by_net : PySem.W.nsIn K mainGlobals "by_net" = some (some (.ref a_by_net)))
    (l_by_net : K.lookup a_by_net = some ⟨oc_by_net, od_by_net, .func (PySem.W.fnOf "by_net" "by_net" (defArgs st_by_net) (defBody st_by_net) (defScope st_by_net) .none kV_by_net dc_by_net pm_by_net an_by_net cd_by_net ct_by_net), sl_by_net⟩)
    (c_by_net : PySem.W.codeIn K cd_by_net "by_net" = true)
    (k_by_net : PySem.W.keepIn K (.ref a_by_net) = true)
    (g_power : PySem.W.nsIn K mainGlobals "power" = some (some (.ref a_power)))
    (l_power : K.lookup a_power = some ⟨oc_power, od_power, .func (PySem.W.fnOf "power" "power" (defArgs st_power) (defBody st_power) (defScope st_power) .none kV_power dc_power pm_power an_power cd_power ct_power), sl_power⟩)
    (c_power : PySem.W.codeIn K cd_power "power" = true)
    (k_power : PySem.W.keepIn K (.ref a_power) = true)
    (g_look_net : PySem.W.nsIn K mainGlobals "look_net" = some (some (.ref a_look_net)))
    (l_look_net : K.lookup a_look_net = some ⟨oc_look_net, od_look_net, .func (PySem.W.fnOf "look_net" "look_net" (defArgs st_look_net) (defBody st_look_net) (defScope st_look_net) .none kV_look_net dc_look_net pm_look_net an_look_net cd_look_net ct_look_net), sl_look_net⟩)
    (c_look_net : PySem.W.codeIn K cd_look_net "look_net" = true)
    (k_look_net : PySem.W.keepIn K (.ref a_look_net) = true)
    (g_layers : PySem.W.nsIn K mainGlobals "layers" = some (some (.ref a_layers)))
    (l_layers : K.lookup a_layers = some ⟨oc_layers, od_layers, .func (PySem.W.fnOf "layers" "layers" (defArgs st_layers) (defBody st_layers) (defScope st_layers) .none kV_layers dc_layers pm_layers an_layers cd_layers ct_layers), sl_layers⟩)
    (c_layers : PySem.W.codeIn K cd_layers "layers" = true)
    (k_layers : PySem.W.keepIn K (.ref a_layers) = true)
    (g__law_dice : PySem.W.nsIn K mainGlobals "_law_dice" = some (some (.ref a__law_dice)))
    (l__law_dice : K.lookup a__law_dice = some ⟨oc__law_dice, od__law_dice, .func (PySem.W.fnOf "_law_dice" "_law_dice" (defArgs st__law_dice) (defBody st__law_dice) (defScope st__law_dice) .none kV__law_dice dc__law_dice pm__law_dice an__law_dice cd__law_dice ct__law_dice), sl__law_dice⟩)
    (c__law_dice : PySem.W.codeIn K cd__law_dice "_law_dice" = true)
    (k__law_dice : PySem.W.keepIn K (.ref a__law_dice) = true)
    (g__law_roll : PySem.W.nsIn K mainGlobals "_law_roll" = some (some (.ref a__law_roll)))
    (l__law_roll : K.lookup a__law_roll = some ⟨oc__law_roll, od__law_roll, .func (PySem.W.fnOf "_law_roll" "_law_roll" (defArgs st__law_roll) (defBody st__law_roll) (defScope st__law_roll) .none kV__law_roll dc__law_roll pm__law_roll an__law_roll cd__law_roll ct__law_roll), sl__law_roll⟩)
    (c__law_roll : PySem.W.codeIn K cd__law_roll "_law_roll" = true)
    (k__law_roll : PySem.W.keepIn K (.ref a__law_roll) = true)
    (g__law_rounds : PySem.W.nsIn K mainGlobals "_law_rounds" = some (some (.ref a__law_rounds)))
    (l__law_rounds : K.lookup a__law_rounds = some ⟨oc__law_rounds, od__law_rounds, .func (PySem.W.fnOf "_law_rounds" "_law_rounds" (defArgs st__law_rounds) (defBody st__law_rounds) (defScope st__law_rounds) .none kV__law_rounds dc__law_rounds pm__law_rounds an__law_rounds cd__law_rounds ct__law_rounds), sl__law_rounds⟩)
    (c__law_rounds : PySem.W.codeIn K cd__law_rounds "_law_rounds" = true)
    (k__law_rounds : PySem.W.keepIn K (.ref a__law_rounds) = true)
    (g__law_refused : PySem.W.nsIn K mainGlobals "_law_refused" = some (some (.ref a__law_refused)))
    (l__law_refused : K.lookup a__law_refused = some ⟨oc__law_refused, od__law_refused, .func (PySem.W.fnOf "_law_refused" "_law_refused" (defArgs st__law_refused) (defBody st__law_refused) (defScope st__law_refused) .none kV__law_refused dc__law_refused pm__law_refused an__law_refused cd__law_refused ct__law_refused), sl__law_refused⟩)
    (c__law_refused : PySem.W.codeIn K cd__law_refused "_law_refused" = true)
    (k__law_refused : PySem.W.keepIn K (.ref a__law_refused) = true)
    (g__law_done : PySem.W.nsIn K mainGlobals "_law_done" = some (some (.ref a__law_done)))
    (l__law_done : K.lookup a__law_done = some ⟨oc__law_done, od__law_done, .func (PySem.W.fnOf "_law_done" "_law_done" (defArgs st__law_done) (defBody st__law_done) (defScope st__law_done) .none kV__law_done dc__law_done pm__law_done an__law_done cd__law_done ct__law_done), sl__law_done⟩)
    (c__law_done : PySem.W.codeIn K cd__law_done "_law_done" = true)
    (k__law_done : PySem.W.keepIn K (.ref a__law_done) = true)
    (g__law_rows : PySem.W.nsIn K mainGlobals "_law_rows" = some (some (.ref a__law_rows)))
    (l__law_rows : K.lookup a__law_rows = some ⟨oc__law_rows, od__law_rows, .func (PySem.W.fnOf "_law_rows" "_law_rows" (defArgs st__law_rows) (defBody st__law_rows) (defScope st__law_rows) .none kV__law_rows dc__law_rows pm__law_rows an__law_rows cd__law_rows ct__law_rows), sl__law_rows⟩)
    (c__law_rows : PySem.W.codeIn K cd__law_rows "_law_rows" = true)
    (k__law_rows : PySem.W.keepIn K (.ref a__law_rows) = true)
    (g_law : PySem.W.nsIn K mainGlobals "law" = some (some (.ref a_law)))
    (l_law : K.lookup a_law = some ⟨oc_law, od_law, .func (PySem.W.fnOf "law" "law" (defArgs st_law) (defBody st_law) (defScope st_law) .none kV_law dc_law pm_law an_law cd_law ct_law), sl_law⟩)
    (c_law : PySem.W.codeIn K cd_law "law" = true)
    (k_law : PySem.W.keepIn K (.ref a_law) = true)
    (eg_BadSteps : PySem.W.nsIn K mainGlobals "BadSteps" = some (some (.ref C_BadSteps)))
    (eq_BadSteps : PySem.W.excIn K C_BadSteps [.type "ValueError", .type "Exception", .type "BaseException", .type "object"] "ValueError.__new__" = true)
    (ek_BadSteps : PySem.W.keepIn K (.ref C_BadSteps) = true)
    (eb_BadSteps : PySem.W.subIn K (.ref C_BadSteps) (.type "BaseException") = some true)
    (et_BadSteps : PySem.W.typeIn K (.ref C_BadSteps) = some (.type "type"))
    (x_BadSteps_BadSteps : PySem.W.exmOne K (.ref C_BadSteps) (.ref C_BadSteps) = some true)
    (b_abs : PySem.W.nsIn K mainGlobals "abs" = some none)
    (b_int : PySem.W.nsIn K mainGlobals "int" = some none)
    (b_len : PySem.W.nsIn K mainGlobals "len" = some none)
    (b_list : PySem.W.nsIn K mainGlobals "list" = some none)
    (b_max : PySem.W.nsIn K mainGlobals "max" = some none)
    (b_range : PySem.W.nsIn K mainGlobals "range" = some none)
    (b_sorted : PySem.W.nsIn K mainGlobals "sorted" = some none)
    (b_str : PySem.W.nsIn K mainGlobals "str" = some none)
    (b_tuple : PySem.W.nsIn K mainGlobals "tuple" = some none) (hcd : cd_law = .ref c) (hP : tabOf K cd_law ∈ ts) (hh : PySem.W.codeHdIn K c (tabOf K cd_law) = true) (hn : K.lookup (tabOf K cd_law) = none) :
    ∃ (c P : Addr) (fd : FuncData), h.get? P = some { cls := .none, data := .fields #[] } ∧ K.lookup P = none ∧ PySem.W.CodeHd h c P ∧ (∀ (s : Shared) (v : Value), BindsTo s fd ⟨[v], []⟩ [("script", v)]) ∧ ∀ base : Heap, K.In base → base.Ns mainGlobals mg → LamX.TabB base mg c P → FnOk P0 w K mg base (L2.CX P0 w) 5 fa fd ["script"] (@VF.spL ⟨[(P, (("law" : Str) ++ ".<locals>." ++ "<lambda>"))]⟩ K) := by
  obtain ⟨fd, h1, h2⟩ := @all_mk ⟨[(tabOf K cd_law, (("law" : Str) ++ ".<locals>." ++ "<lambda>"))]⟩ _ _ _ _ _ _ _ _ _ _ _ _ _ _ _ _ _ _ _ _ _ _ _ _ _ _ _ _ _ _ _ _ _ _ _ _ _ _ _ _ _ _ _ _ _ _ _ _ _ _ _ _ _ _ _ _ _ _ _ _ _ _ _ _ _ _ _ _ _ _ _ _ _ _ _ _ _ _ _ _ _ _ _ _ _ _ _ _ _ _ _ _ _ _ _ _ _ _ _ _ _ _ _ _ _ _ _ _ _ _ _ _ _ _ _ _ _ _ _ _ _ _ _ _ _ _ _ X G hfa g_net l_net c_net k_net g_by_net l_by_net c_by_net k_by_net g_power l_power c_power k_power g_look_net l_look_net c_look_net k_look_net g_layers l_layers c_layers k_layers g__law_dice l__law_dice c__law_dice k__law_dice g__law_roll l__law_roll c__law_roll k__law_roll g__law_rounds l__law_rounds c__law_rounds k__law_rounds g__law_refused l__law_refused c__law_refused k__law_refused g__law_done l__law_done c__law_done k__law_done g__law_rows l__law_rows c__law_rows k__law_rows g_law l_law c_law k_law eg_BadSteps eq_BadSteps ek_BadSteps eb_BadSteps et_BadSteps x_BadSteps_BadSteps b_abs b_int b_len b_list b_max b_range b_sorted b_str b_tuple
  refine ⟨c, tabOf K cd_law, fd, hts _ hP, hn, PySem.W.codeHd_of_K X hh, h1, fun base a b tb => h2 base a b ?_⟩
  letI iT : Tab := ⟨[(tabOf K cd_law, (("law" : Str) ++ ".<locals>." ++ "<lambda>"))]⟩
  exact ⟨c, tabOf K cd_law, hcd, tb, List.mem_singleton.mpr rfl, fun p hp _ => by rw [List.mem_singleton.mp hp]⟩
omit [Tab] in
theorem law_walkT {l : PySem.W.OpenLaw} {q : Program} {loose : List Str} {XP : (Str → Option Value) → Heap → Prop} {YP : World → Heap → Prop} {d : DefRec} {K : Params → PySem.W.Frag} (hn : l.most = some 63) (hdf : d.params.defaults = [])
    (hY : ∀ (w : World) (h : Heap), YP w h → (K w.params).In h)
    (F : ∀ (w : World) (mg : Str → Option Value) (fa : Addr) (h : Heap), YP w h → (K w.params).In h → h.Ns mainGlobals mg → mg d.name = some (.ref fa) →
      ∃ (c P : Addr) (fd : FuncData), h.get? P = some { cls := .none, data := .fields #[] } ∧ (K w.params).lookup P = none ∧ PySem.W.CodeHd h c P ∧ (∀ (s : Shared) (v : Value), BindsTo s fd ⟨[v], []⟩ [("script", v)]) ∧ ∀ base : Heap, (K w.params).In base → base.Ns mainGlobals mg → LamX.TabB base mg c P → FnOk l.prog w (K w.params) mg base (L2.CX l.prog w) 5 fa fd ["script"] (@VF.spL ⟨[(P, (("law" : Str) ++ ".<locals>." ++ "<lambda>"))]⟩ (K w.params))) :
    PySem.W.WalkO q loose XP YP l.row.toRowW d [] (fun f vs => PySem.call f vs) :=
  LamX.walk_ofTs (n := 63) (k := 5) (x := "script") (CX := fun w => L2.CX l.prog w) hn (by decide) hdf ⟨rfl, by decide, by decide⟩ hY (fun w mg fa h Y KX G hm => by
    obtain ⟨c, P, fd, h1, h2, h3, h4, h5⟩ := F w mg fa h Y KX G hm
    refine ⟨fd, [(c, P)], _, fun p hp => ?_, fun p hp => ?_, fun p hp => ?_, h4, fun H a ns hl _ hH hS => ?_, fun base a b tb => h5 base a b (tb _ (List.mem_singleton.mpr rfl))⟩
    · rw [List.mem_singleton.mp hp]; exact h1
    · rw [List.mem_singleton.mp hp]; exact h2
    · rw [List.mem_singleton.mp hp]; exact h3
    · letI iT : Tab := ⟨[(P, (("law" : Str) ++ ".<locals>." ++ "<lambda>"))]⟩
      exact ⟨a, ns, rfl, hS, hl, fun p hp => by
        rw [List.mem_singleton.mp hp]
        exact LamX.TabS.nil (hH _ (List.mem_singleton.mpr rfl)), fun _ => rfl⟩)
    (fun w H s e s' z => by obtain ⟨_, _, _, _, _, _, _, _, _, _, _, _, z⟩ := z; exact z)
end Law
open PySem PySem.W PyProof.Rows
set_option maxRecDepth 100000 in
set_option maxHeartbeats 0 in
theorem PySem.Challenge.cw_heapyard_k23_nets_of_exchanges_holds : PySem.Challenge.rw_heapyard_k23_nets_of_exchanges.Holds := by
  w_on; o_law; k_head; (case hw => w_witness2)
  k_fill
  refine Law.law_walkT (l := PySem.Challenge.rw_heapyard_k23_nets_of_exchanges) rfl rfl (fun w h Y => PySem.W.km_in_of Y) ?F
  case F =>
    intro w mg fa h Y KX G hmg
    refine' Law.all_mkT KX G hmg (PySem.W.km_tabs_of Y) ?g_net ?l_net ?c_net ?k_net ?g_by_net ?l_by_net ?c_by_net ?k_by_net ?g_power ?l_power ?c_power ?k_power ?g_look_net ?l_look_net ?c_look_net ?k_look_net ?g_layers ?l_layers ?c_layers ?k_layers ?g__law_dice ?l__law_dice ?c__law_dice ?k__law_dice ?g__law_roll ?l__law_roll ?c__law_roll ?k__law_roll ?g__law_rounds ?l__law_rounds ?c__law_rounds ?k__law_rounds ?g__law_refused ?l__law_refused ?c__law_refused ?k__law_refused ?g__law_done ?l__law_done ?c__law_done ?k__law_done ?g__law_rows ?l__law_rows ?c__law_rows ?k__law_rows ?g_law ?l_law ?c_law ?k_law ?eg_BadSteps ?eq_BadSteps ?ek_BadSteps ?eb_BadSteps ?et_BadSteps ?x_BadSteps_BadSteps ?b_abs ?b_int ?b_len ?b_list ?b_max ?b_range ?b_sorted ?b_str ?b_tuple ?z_c ?z_P ?z_h ?z_n
    (case g_net => k_is)
    (case l_net => k_is)
    (case c_net => k_is)
    (case k_net => k_is)
    (case g_by_net => k_is)
    (case l_by_net => k_is)
    (case c_by_net => k_is)
    (case k_by_net => k_is)
    (case g_power => k_is)
    (case l_power => k_is)
    (case c_power => k_is)
    (case k_power => k_is)
    (case g_look_net => k_is)
    (case l_look_net => k_is)
    (case c_look_net => k_is)
    (case k_look_net => k_is)
    (case g_layers => k_is)
    (case l_layers => k_is)
    (case c_layers => k_is)
    (case k_layers => k_is)
    (case g__law_dice => k_is)
    (case l__law_dice => k_is)
    (case c__law_dice => k_is)
    (case k__law_dice => k_is)
    (case g__law_roll => k_is)
    (case l__law_roll => k_is)
    (case c__law_roll => k_is)
    (case k__law_roll => k_is)
    (case g__law_rounds => k_is)
    (case l__law_rounds => k_is)
    (case c__law_rounds => k_is)
    (case k__law_rounds => k_is)
    (case g__law_refused => k_is)
    (case l__law_refused => k_is)
    (case c__law_refused => k_is)
    (case k__law_refused => k_is)
    (case g__law_done => k_is)
    (case l__law_done => k_is)
    (case c__law_done => k_is)
    (case k__law_done => k_is)
    (case g__law_rows => k_is)
    (case l__law_rows => k_is)
    (case c__law_rows => k_is)
    (case k__law_rows => k_is)
    (case g_law => k_is)
    (case l_law => k_is)
    (case c_law => k_is)
    (case k_law => k_is)
    (case eg_BadSteps => k_is)
    (case eq_BadSteps => k_exc)
    (case ek_BadSteps => k_is)
    (case eb_BadSteps => k_is)
    (case et_BadSteps => k_is)
    (case x_BadSteps_BadSteps => first | k_is | rfl | decide +kernel)
    (case b_abs => k_is)
    (case b_int => k_is)
    (case b_len => k_is)
    (case b_list => k_is)
    (case b_max => k_is)
    (case b_range => k_is)
    (case b_sorted => k_is)
    (case b_str => k_is)
    (case b_tuple => k_is)
    (case z_c => rfl)
    (case z_P => exact List.mem_of_elem_eq_true (by kernel_rfl))
    (case z_h => kernel_rfl)
    (case z_n => kernel_rfl)

