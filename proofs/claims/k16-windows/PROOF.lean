import PyProof.Rows.All
import Wide.All
import OpenK.AllK
import Wide.FinOn
import HandS.ForMost
import HandS.ForExc
import HandS.IsInst
import HandS.TupAny
import HandS.TupLe
import HandS.SortInts
import HandS.Conv
import HandS.Text
import HandS.TryMany
import HandS.Style
import PySem.Challenge.RW_heapyard_k16_windows_and_blocks
set_option Elab.async false
set_option linter.all false
set_option maxRecDepth 100000
set_option autoImplicit false
/-! A functional reading over the hand layer: each piece of text is told by a function of plain data and a store. -/
namespace PF
open PySem L2

/-- plain data: tuples and frozen lists by their items, everything that changes by its number in the store -/
inductive D where
  | non | bl (b : Bool) | int (i : Int) | str (x : Str) | tup (xs : List D) | lst (xs : List D) | ref (n : Nat) | scr (ns : List Int)
/-- an object of the store -/
inductive O where
  | lst (xs : List D) | dic (kvs : List (Key × D)) | ins (C : Addr) (fs : List (Str × D)) | dead
abbrev So := List O
abbrev En := List (Option D)
/-- where the store's objects stand, and which lists are frozen -/
structure Wd where
  m : List Addr
  fz : Addr → Prop
  rs : Addr → Prop

section rel
variable (K : PySem.W.Frag) (W : Wd) (H : Hp)
/-- a list of the written part -/
def KL (a : Addr) (xs : List V) : Prop := ∃ (o : Obj) (its : Array Value) (n : Nat), K.lookup a = some o ∧ o.cls = .type "list" ∧ o.dict = none ∧ o.data = .seq its n ∧ its.size ≤ sizeLine ∧ Vals xs its.toList
def FzL (a : Addr) (xs : List V) : Prop := W.fz a ∧ H a = some (.lst xs)
mutual
def DRel : D → V → Prop
  | .non, v => v = .non
  | .bl b, v => v = .bl b
  | .int i, v => v = .int i
  | .str x, v => v = .str x
  | .tup ds, v => ∃ a vs, v = .ref a ∧ SqT K H a vs ∧ DRels ds vs
  | .lst ds, v => ∃ a vs, v = .ref a ∧ FzL W H a vs ∧ DRels ds vs
  | .ref n, v => ∃ a, v = .ref a ∧ W.m[n]? = some a
  | .scr ns, v => ∃ a, v = .ref a ∧ ((∃ o, H a = some (.frz o (.lst (ns.map V.int)))) ∨ KL K a (ns.map V.int))
def DRels : List D → List V → Prop
  | [], vs => vs = []
  | d :: ds, vs => ∃ v r, vs = v :: r ∧ DRel d v ∧ DRels ds r
end
def KRel : List (Key × D) → List (Key × V) → Prop
  | [], vs => vs = []
  | (k, d) :: ds, vs => ∃ v r, vs = (k, v) :: r ∧ DRel K W H d v ∧ KRel ds r
def FRel : List (Str × D) → List (Str × V) → Prop
  | [], vs => vs = []
  | (k, d) :: ds, vs => ∃ v r, vs = (k, v) :: r ∧ DRel K W H d v ∧ FRel ds r
def ORel (a : Addr) : O → Prop
  | .lst ds => ∃ vs, H a = some (.lst vs) ∧ DRels K W H ds vs
  | .dic kvs => ∃ vs, H a = some (.dK vs) ∧ KRel K W H kvs vs
  | .ins C fs => ∃ dx vs, H a = some (.ins C dx vs) ∧ FRel K W H fs vs
  | .dead => True
structure SRel (S : So) : Prop where
  len : W.m.length = S.length
  inj : W.m.Nodup
  dom : ∀ (n : Nat) (a : Addr), W.m[n]? = some a → Mut (H a)
  fzd : ∀ a, W.fz a → ∃ o, H a = some o
  dis : ∀ (n : Nat) (a : Addr), W.m[n]? = some a → ¬ W.fz a
  rsd : ∀ a, W.rs a → (∃ o, H a = some o) ∧ a ∉ W.m ∧ ¬ W.fz a
  obj : ∀ (n : Nat) (a : Addr) (o : O), W.m[n]? = some a → S[n]? = some o → ORel K W H a o
def ERel (en : En) (σ : St) : Prop := en.length = σ.length ∧ ∀ (i : Nat) d, en[i]? = some (some d) → ∃ v, σ[i]? = some (some v) ∧ DRel K W H d v
end rel
/-- later -/
structure Ext0 (K : PySem.W.Frag) (W : Wd) (H : Hp) (W' : Wd) (H' : Hp) : Prop where
  m : ∀ (n : Nat) (a : Addr), W.m[n]? = some a → W'.m[n]? = some a
  fz : ∀ a, W.fz a → W'.fz a
  tup : ∀ a vs, SqT K H a vs → SqT K H' a vs
  lst : ∀ a vs, W.fz a → H a = some (.lst vs) → H' a = some (.lst vs)
  scr : ∀ a o vs, H a = some (.frz o (.lst vs)) → H' a = some (.frz o (.lst vs))
/-- .. and what is reserved stands as it was -/
structure Ext (K : PySem.W.Frag) (W : Wd) (H : Hp) (W' : Wd) (H' : Hp) : Prop extends Ext0 K W H W' H' where
  rs : ∀ a, W.rs a → W'.rs a ∧ H' a = H a

section ext
variable {K : PySem.W.Frag} {W W' W1 W2 : Wd} {H H' H1 H2 : Hp}
theorem Ext0.refl : Ext0 K W H W H := ⟨fun _ _ h => h, fun _ h => h, fun _ _ h => h, fun _ _ _ h => h, fun _ _ _ h => h⟩
theorem Ext0.trans (a : Ext0 K W H W1 H1) (b : Ext0 K W1 H1 W2 H2) : Ext0 K W H W2 H2 :=
  ⟨fun n x h => b.m n x (a.m n x h), fun x h => b.fz x (a.fz x h), fun x vs h => b.tup x vs (a.tup x vs h), fun x vs f h => b.lst x vs (a.fz x f) (a.lst x vs f h), fun x o vs h => b.scr x o vs (a.scr x o vs h)⟩
theorem Ext.refl : Ext K W H W H := ⟨Ext0.refl, fun _ h => ⟨h, rfl⟩⟩
theorem Ext.trans (a : Ext K W H W1 H1) (b : Ext K W1 H1 W2 H2) : Ext K W H W2 H2 :=
  ⟨a.toExt0.trans b.toExt0, fun x h => ⟨(b.rs x (a.rs x h).1).1, (b.rs x (a.rs x h).1).2.trans (a.rs x h).2⟩⟩
theorem FzL.ext0 {a : Addr} {vs : List V} (e : Ext0 K W H W' H') (h : FzL W H a vs) : FzL W' H' a vs := ⟨e.fz _ h.1, e.lst _ _ h.1 h.2⟩
theorem FzL.sq {a : Addr} {vs : List V} (h : FzL W H a vs) : SqL K H a vs := .of h.2
mutual
theorem DRel.ext0 (e : Ext0 K W H W' H') : ∀ {d : D} {v : V}, DRel K W H d v → DRel K W' H' d v
  | .non, v, h => h
  | .bl _, v, h => h
  | .int _, v, h => h
  | .str _, v, h => h
  | .tup ds, v, h => by
    unfold DRel at h ⊢
    obtain ⟨a, vs, h1, h2, h3⟩ := h
    exact ⟨a, vs, h1, e.tup _ _ h2, DRels.ext0 e h3⟩
  | .lst ds, v, h => by
    unfold DRel at h ⊢
    obtain ⟨a, vs, h1, h2, h3⟩ := h
    exact ⟨a, vs, h1, h2.ext0 e, DRels.ext0 e h3⟩
  | .ref n, v, h => by
    unfold DRel at h ⊢
    obtain ⟨a, h1, h2⟩ := h
    exact ⟨a, h1, e.m _ _ h2⟩
  | .scr ns, v, h => by
    unfold DRel at h ⊢
    obtain ⟨a, h1, h2⟩ := h
    refine ⟨a, h1, ?_⟩
    rcases h2 with ⟨o, h2⟩ | h2
    · exact .inl ⟨o, e.scr _ _ _ h2⟩
    · exact .inr h2
theorem DRels.ext0 (e : Ext0 K W H W' H') : ∀ {ds : List D} {vs : List V}, DRels K W H ds vs → DRels K W' H' ds vs
  | [], vs, h => h
  | d :: ds, vs, h => by
    unfold DRels at h ⊢
    obtain ⟨v, r, h1, h2, h3⟩ := h
    exact ⟨v, r, h1, DRel.ext0 e h2, DRels.ext0 e h3⟩
end
theorem KRel.ext0 (e : Ext0 K W H W' H') : ∀ {ds : List (Key × D)} {vs : List (Key × V)}, KRel K W H ds vs → KRel K W' H' ds vs
  | [], vs, h => h
  | (k, d) :: ds, vs, h => by
    unfold KRel at h ⊢
    obtain ⟨v, r, h1, h2, h3⟩ := h
    exact ⟨v, r, h1, DRel.ext0 e h2, KRel.ext0 e h3⟩
theorem FRel.ext0 (e : Ext0 K W H W' H') : ∀ {ds : List (Str × D)} {vs : List (Str × V)}, FRel K W H ds vs → FRel K W' H' ds vs
  | [], vs, h => h
  | (k, d) :: ds, vs, h => by
    unfold FRel at h ⊢
    obtain ⟨v, r, h1, h2, h3⟩ := h
    exact ⟨v, r, h1, DRel.ext0 e h2, FRel.ext0 e h3⟩
theorem ERel.ext0 {en : En} {σ : St} (e : Ext0 K W H W' H') (h : ERel K W H en σ) : ERel K W' H' en σ :=
  ⟨h.1, fun i d hi => (h.2 i d hi).imp fun v hv => ⟨hv.1, hv.2.ext0 e⟩⟩
theorem FzL.ext {a : Addr} {vs : List V} (e : Ext K W H W' H') (h : FzL W H a vs) : FzL W' H' a vs := h.ext0 e.toExt0
theorem DRel.ext {d : D} {v : V} (e : Ext K W H W' H') (h : DRel K W H d v) : DRel K W' H' d v := h.ext0 e.toExt0
theorem DRels.ext {d : List D} {v : List V} (e : Ext K W H W' H') (h : DRels K W H d v) : DRels K W' H' d v := h.ext0 e.toExt0
theorem KRel.ext {d : List (Key × D)} {v : List (Key × V)} (e : Ext K W H W' H') (h : KRel K W H d v) : KRel K W' H' d v := h.ext0 e.toExt0
theorem FRel.ext {d : List (Str × D)} {v : List (Str × V)} (e : Ext K W H W' H') (h : FRel K W H d v) : FRel K W' H' d v := h.ext0 e.toExt0
theorem ERel.ext {en : En} {σ : St} (e : Ext K W H W' H') (h : ERel K W H en σ) : ERel K W' H' en σ := h.ext0 e.toExt0
theorem ERel.set {en : En} {σ : St} {i : Nat} {d : D} {v : V} (h : ERel K W H en σ) (r : DRel K W H d v) : ERel K W H (en.set i (some d)) (σ.set i (some v)) := by
  refine ⟨by rw [List.length_set, List.length_set]; exact h.1, fun j e hj => ?_⟩
  by_cases c : i = j
  · subst c
    by_cases hl : i < en.length
    · rw [List.getElem?_set_self hl] at hj
      cases hj
      exact ⟨v, List.getElem?_set_self (by rw [← h.1]; exact hl), r⟩
    · rw [List.getElem?_eq_none (by rw [List.length_set]; omega)] at hj
      cases hj
  · rw [List.getElem?_set_ne c] at hj ⊢
    exact h.2 j e hj
theorem ERel.clear {en : En} {σ : St} {i : Nat} (h : ERel K W H en σ) : ERel K W H (en.set i none) (σ.set i none) := by
  refine ⟨by rw [List.length_set, List.length_set]; exact h.1, fun j e hj => ?_⟩
  by_cases c : i = j
  · subst c
    by_cases hl : i < en.length
    · rw [List.getElem?_set_self hl] at hj; cases hj
    · rw [List.getElem?_eq_none (by rw [List.length_set]; omega)] at hj; cases hj
  · rw [List.getElem?_set_ne c] at hj ⊢
    exact h.2 j e hj
theorem ERel.wipe {en : En} {σ : St} (h : ERel K W H en σ) : ∀ vs : List Nat, ∃ en', ERel K W H en' (wipe σ vs)
  | [] => ⟨en, h⟩
  | v :: vs => by
    obtain ⟨en', h'⟩ := ERel.wipe h vs
    exact ⟨en'.set v none, h'.clear⟩
theorem DRels.length : ∀ {ds : List D} {vs : List V}, DRels K W H ds vs → ds.length = vs.length
  | [], vs, h => by unfold DRels at h; subst h; rfl
  | d :: ds, vs, h => by
    unfold DRels at h
    obtain ⟨v, r, rfl, _, h3⟩ := h
    simp [DRels.length h3]
theorem DRels.get : ∀ {ds : List D} {vs : List V}, DRels K W H ds vs → ∀ {i : Nat} {d : D}, ds[i]? = some d → ∃ v, vs[i]? = some v ∧ DRel K W H d v
  | [], vs, h, i, d, e => by simp at e
  | d :: ds, vs, h, 0, d', e => by
    unfold DRels at h
    obtain ⟨v, r, rfl, h2, h3⟩ := h
    simp at e; subst e
    exact ⟨v, rfl, h2⟩
  | d :: ds, vs, h, i + 1, d', e => by
    unfold DRels at h
    obtain ⟨v, r, rfl, h2, h3⟩ := h
    simpa using DRels.get h3 (i := i) (d := d') (by simpa using e)
theorem DRels.cons {d : D} {ds : List D} {v : V} {vs : List V} (h : DRel K W H d v) (hs : DRels K W H ds vs) : DRels K W H (d :: ds) (v :: vs) := by
  unfold DRels
  exact ⟨v, vs, rfl, h, hs⟩
theorem DRels.nil : DRels K W H [] [] := by unfold DRels; rfl
theorem DRels.append : ∀ {ds es : List D} {vs us : List V}, DRels K W H ds vs → DRels K W H es us → DRels K W H (ds ++ es) (vs ++ us)
  | [], es, vs, us, h, h' => by unfold DRels at h; subst h; exact h'
  | d :: ds, es, vs, us, h, h' => by
    unfold DRels at h
    obtain ⟨v, r, rfl, h2, h3⟩ := h
    exact DRels.cons h2 (DRels.append h3 h')
theorem DRels.take : ∀ {ds : List D} {vs : List V} (n : Nat), DRels K W H ds vs → DRels K W H (ds.take n) (vs.take n)
  | ds, vs, 0, h => by simp; exact DRels.nil
  | [], vs, n + 1, h => by unfold DRels at h; subst h; exact DRels.nil
  | d :: ds, vs, n + 1, h => by
    unfold DRels at h
    obtain ⟨v, r, rfl, h2, h3⟩ := h
    exact DRels.cons h2 (DRels.take n h3)
theorem DRels.drop : ∀ {ds : List D} {vs : List V} (n : Nat), DRels K W H ds vs → DRels K W H (ds.drop n) (vs.drop n)
  | ds, vs, 0, h => by simpa using h
  | [], vs, n + 1, h => by unfold DRels at h; subst h; exact DRels.nil
  | d :: ds, vs, n + 1, h => by
    unfold DRels at h
    obtain ⟨v, r, rfl, h2, h3⟩ := h
    simpa using DRels.drop n h3
theorem DRels.set {d : D} {v : V} (q : DRel K W H d v) : ∀ {ds : List D} {vs : List V} (n : Nat), DRels K W H ds vs → DRels K W H (ds.set n d) (vs.set n v)
  | [], vs, n, h => by unfold DRels at h; subst h; exact DRels.nil
  | e :: ds, vs, 0, h => by
    unfold DRels at h
    obtain ⟨v', r, rfl, h2, h3⟩ := h
    exact DRels.cons q h3
  | e :: ds, vs, n + 1, h => by
    unfold DRels at h
    obtain ⟨v', r, rfl, h2, h3⟩ := h
    exact DRels.cons h2 (DRels.set q n h3)
theorem DRels.reverse : ∀ {ds : List D} {vs : List V}, DRels K W H ds vs → DRels K W H ds.reverse vs.reverse
  | [], vs, h => by unfold DRels at h; subst h; exact DRels.nil
  | d :: ds, vs, h => by
    unfold DRels at h
    obtain ⟨v, r, rfl, h2, h3⟩ := h
    rw [List.reverse_cons, List.reverse_cons]
    exact DRels.append (DRels.reverse h3) (DRels.cons h2 DRels.nil)
theorem DRels.eraseIdx : ∀ {ds : List D} {vs : List V} (n : Nat), DRels K W H ds vs → DRels K W H (ds.eraseIdx n) (vs.eraseIdx n)
  | [], vs, n, h => by unfold DRels at h; subst h; exact DRels.nil
  | e :: ds, vs, 0, h => by
    unfold DRels at h
    obtain ⟨v', r, rfl, h2, h3⟩ := h
    exact h3
  | e :: ds, vs, n + 1, h => by
    unfold DRels at h
    obtain ⟨v', r, rfl, h2, h3⟩ := h
    exact DRels.cons h2 (DRels.eraseIdx n h3)
theorem DRels.dropLast {ds : List D} {vs : List V} (h : DRels K W H ds vs) : DRels K W H ds.dropLast vs.dropLast := by
  rw [List.dropLast_eq_take, List.dropLast_eq_take, h.length]
  exact h.take _
theorem DRels.rep {ds : List D} {vs : List V} (h : DRels K W H ds vs) : ∀ k : Nat, DRels K W H (List.replicate k ds).flatten (List.replicate k vs).flatten
  | 0 => DRels.nil
  | k + 1 => by
    rw [List.replicate_succ, List.replicate_succ, List.flatten_cons, List.flatten_cons]
    exact DRels.append h (DRels.rep h k)
theorem DRels.ints : ∀ (ns : List Int), DRels K W H (ns.map D.int) (ns.map V.int)
  | [] => DRels.nil
  | n :: ns => DRels.cons (by unfold DRel; rfl) (DRels.ints ns)
theorem DRels.ints_of : ∀ {ns : List Int} {vs : List V}, DRels K W H (ns.map D.int) vs → vs = ns.map V.int
  | [], vs, h => by simp only [List.map_nil] at h; unfold DRels at h; exact h
  | n :: ns, vs, h => by
    simp only [List.map_cons] at h
    unfold DRels at h
    obtain ⟨v, r, rfl, h2, h3⟩ := h
    unfold DRel at h2
    rw [h2, DRels.ints_of h3, List.map_cons]
end ext
end PF

namespace PF
open PySem L2
/-! ### the store changes -/
section store
variable {K : PySem.W.Frag} {W W' : Wd} {H : Hp} {S : So} {p a : Addr} {o : HO} {n : Nat} {ob : O}
theorem mut_some {x : Option HO} (h : Mut x) : ∃ o, x = some o := by
  cases x with
  | none => exact h.elim
  | some o => exact ⟨o, rfl⟩
theorem sqT_upd {b : Addr} {vs : List V} (hp : H p = none) (h : SqT K H b vs) : SqT K (upd H p o) b vs := by
  rcases h with (h | ⟨u, h⟩) | h
  · exact .inl (.inl (by rw [upd_ne (ne_of_none h hp)]; exact h))
  · exact .inl (.inr ⟨u, by rw [upd_ne (ne_of_none h hp)]; exact h⟩)
  · exact .inr h
theorem rd_upd {b : Addr} {u : HO} (hp : H p = none) (h : Rd H b u) : Rd (upd H p o) b u := by
  rcases h with h | ⟨x, h⟩
  · exact .inl (by rw [upd_ne (ne_of_none h hp)]; exact h)
  · exact .inr ⟨x, by rw [upd_ne (ne_of_none h hp)]; exact h⟩
theorem ext_fresh (hp : H p = none) (hm : ∀ (n : Nat) (a : Addr), W.m[n]? = some a → W'.m[n]? = some a) (hf : ∀ a, W.fz a → W'.fz a) : Ext0 K W H W' (upd H p o) :=
  ⟨hm, hf, fun _ _ h => sqT_upd hp h, fun _ _ _ h => by rw [upd_ne (ne_of_none h hp)]; exact h, fun _ _ _ h => by rw [upd_ne (ne_of_none h hp)]; exact h⟩
theorem ORel.ext {W' : Wd} {H' : Hp} (e : Ext0 K W H W' H') (hH : H' a = H a) : ∀ {ob : O}, ORel K W H a ob → ORel K W' H' a ob
  | .lst ds, ⟨vs, h1, h2⟩ => ⟨vs, by rw [hH]; exact h1, h2.ext0 e⟩
  | .dic ds, ⟨vs, h1, h2⟩ => ⟨vs, by rw [hH]; exact h1, h2.ext0 e⟩
  | .ins C fs, ⟨dx, vs, h1, h2⟩ => ⟨dx, vs, by rw [hH]; exact h1, h2.ext0 e⟩
  | .dead, _ => trivial
theorem SRel.ne (s : SRel K W H S) (hp : H p = none) (hn : W.m[n]? = some a) : a ≠ p := by
  obtain ⟨o, h⟩ := mut_some (s.dom n a hn)
  exact ne_of_none h hp
theorem SRel.fzne (s : SRel K W H S) (hp : H p = none) (hn : W.fz a) : a ≠ p := by
  obtain ⟨o, h⟩ := s.fzd a hn
  exact ne_of_none h hp
theorem SRel.rsne (s : SRel K W H S) (hp : H p = none) (hn : W.rs a) : a ≠ p := by
  obtain ⟨⟨o, h⟩, _⟩ := s.rsd a hn
  exact ne_of_none h hp
/-- a new thing that the world does not name -/
theorem SRel.more (s : SRel K W H S) (hp : H p = none) : SRel K W (upd H p o) S where
  len := s.len
  inj := s.inj
  dom := fun n a h => by rw [upd_ne (s.ne hp h)]; exact s.dom n a h
  fzd := fun a h => by rw [upd_ne (s.fzne hp h)]; exact s.fzd a h
  dis := s.dis
  rsd := fun a h => by rw [upd_ne (s.rsne hp h)]; exact s.rsd a h
  obj := fun n a ob h h' => (s.obj n a ob h h').ext (ext_fresh hp (fun _ _ q => q) fun _ q => q) (upd_ne (s.ne hp h))
def Wd.frz (W : Wd) (p : Addr) : Wd := ⟨W.m, fun a => W.fz a ∨ a = p, W.rs⟩
def Wd.add (W : Wd) (p : Addr) : Wd := ⟨W.m ++ [p], W.fz, W.rs⟩
theorem rs_fresh (s : SRel K W H S) (hp : H p = none) : ∀ a, W.rs a → W.rs a ∧ upd H p o a = H a := fun a h => ⟨h, upd_ne (s.rsne hp h)⟩
theorem ext_frz (s : SRel K W H S) (hp : H p = none) : Ext K W H (W.frz p) (upd H p o) := ⟨ext_fresh hp (fun _ _ q => q) fun _ q => .inl q, rs_fresh s hp⟩
theorem ext_add (s : SRel K W H S) (hp : H p = none) : Ext K W H (W.add p) (upd H p o) := ⟨ext_fresh hp (fun n a q => by
  show (W.m ++ [p])[n]? = _
  rw [List.getElem?_append_left (List.getElem?_eq_some_iff.mp q).1]; exact q) fun _ q => q, rs_fresh s hp⟩
theorem ext_more (s : SRel K W H S) (hp : H p = none) : Ext K W H W (upd H p o) := ⟨ext_fresh hp (fun _ _ q => q) fun _ q => q, rs_fresh s hp⟩
/-- a new list, frozen -/
theorem SRel.frz {vs : List V} (s : SRel K W H S) (hp : H p = none) : SRel K (W.frz p) (upd H p (.lst vs)) S where
  len := s.len
  inj := s.inj
  dom := fun n a h => by rw [upd_ne (s.ne hp h)]; exact s.dom n a h
  fzd := fun a h => by
    rcases h with h | rfl
    · rw [upd_ne (s.fzne hp h)]; exact s.fzd a h
    · exact ⟨_, upd_same⟩
  dis := fun n a h q => by
    rcases q with q | rfl
    · exact s.dis n a h q
    · exact s.ne hp h rfl
  rsd := fun a h => by
    rw [upd_ne (s.rsne hp h)]
    exact ⟨(s.rsd a h).1, (s.rsd a h).2.1, fun q => q.elim (s.rsd a h).2.2 (s.rsne hp h)⟩
  obj := fun n a ob h h' => (s.obj n a ob h h').ext (ext_frz s hp).toExt0 (upd_ne (s.ne hp h))
theorem drel_frz {ds : List D} {vs : List V} (s : SRel K W H S) (hp : H p = none) (h : DRels K W H ds vs) : DRel K (W.frz p) (upd H p (.lst vs)) (.lst ds) (.ref p) := by
  unfold DRel
  exact ⟨p, vs, rfl, ⟨.inr rfl, upd_same⟩, h.ext (ext_frz s hp)⟩
theorem drel_tup {ds : List D} {vs : List V} (s : SRel K W H S) (hp : H p = none) (h : DRels K W H ds vs) : DRel K W (upd H p (.tup vs)) (.tup ds) (.ref p) := by
  unfold DRel
  exact ⟨p, vs, rfl, .inl (.inl upd_same), h.ext (ext_more s hp)⟩
/-- a new object of the store -/
theorem SRel.new (s : SRel K W H S) (hp : H p = none) (hm : Mut (some o)) (h : ORel K (W.add p) (upd H p o) p ob) : SRel K (W.add p) (upd H p o) (S ++ [ob]) where
  len := by show (W.m ++ [p]).length = _; simp [s.len]
  inj := by
    show (W.m ++ [p]).Nodup
    rw [List.nodup_append]
    refine ⟨s.inj, by simp, ?_⟩
    intro a ha b hb
    simp at hb; subst hb
    obtain ⟨n, hn⟩ := List.getElem?_of_mem ha
    exact s.ne hp hn
  dom := fun n a h => by
    have h : (W.m ++ [p])[n]? = some a := h
    by_cases c : n < W.m.length
    · rw [List.getElem?_append_left c] at h
      rw [upd_ne (s.ne hp h)]; exact s.dom n a h
    · rw [List.getElem?_append_right (by omega)] at h
      have : a = p := by
        cases e : n - W.m.length with
        | zero => rw [e] at h; simpa using h.symm
        | succ k => rw [e] at h; simp at h
      subst this
      rw [upd_same]; exact hm
  fzd := fun a h => by rw [upd_ne (s.fzne hp h)]; exact s.fzd a h
  dis := fun n a h q => by
    have h : (W.m ++ [p])[n]? = some a := h
    by_cases c : n < W.m.length
    · rw [List.getElem?_append_left c] at h
      exact s.dis n a h q
    · rw [List.getElem?_append_right (by omega)] at h
      have : a = p := by
        cases e : n - W.m.length with
        | zero => rw [e] at h; simpa using h.symm
        | succ k => rw [e] at h; simp at h
      subst this
      exact s.fzne hp q rfl
  rsd := fun a h => by
    rw [upd_ne (s.rsne hp h)]
    refine ⟨(s.rsd a h).1, fun q => ?_, (s.rsd a h).2.2⟩
    rcases List.mem_append.mp (show a ∈ W.m ++ [p] from q) with q | q
    · exact (s.rsd a h).2.1 q
    · exact s.rsne hp h (by simpa using q)
  obj := fun n a ob' h0 h' => by
    have h0 : (W.m ++ [p])[n]? = some a := h0
    by_cases c : n < W.m.length
    · rw [List.getElem?_append_left c] at h0
      rw [List.getElem?_append_left (by rw [← s.len]; exact c)] at h'
      exact (s.obj n a ob' h0 h').ext (ext_add s hp).toExt0 (upd_ne (s.ne hp h0))
    · rw [List.getElem?_append_right (by omega)] at h0
      rw [List.getElem?_append_right (by rw [← s.len]; omega)] at h'
      cases e : n - W.m.length with
      | zero =>
        rw [e] at h0; rw [← s.len, e] at h'
        simp at h0 h'; subst h0; subst h'
        exact h
      | succ k => rw [e] at h0; simp at h0
theorem drel_add (s : SRel K W H S) {H' : Hp} : DRel K (W.add p) H' (.ref S.length) (.ref p) := by
  unfold DRel
  refine ⟨p, rfl, ?_⟩
  show (W.m ++ [p])[S.length]? = _
  rw [← s.len]; simp
/-- an object of the store changes -/
theorem ext_upd0 (s : SRel K W H S) (hn : W.m[n]? = some a) : Ext0 K W H W (upd H a o) where
  m := fun _ _ q => q
  fz := fun _ q => q
  tup := fun b vs h => by
    have hm := s.dom n a hn
    rcases h with (h | ⟨u, h⟩) | h
    · refine .inl (.inl ?_)
      rw [upd_ne (by rintro rfl; rw [h] at hm; exact hm)]; exact h
    · refine .inl (.inr ⟨u, ?_⟩)
      rw [upd_ne (by rintro rfl; rw [h] at hm; exact hm)]; exact h
    · exact .inr h
  lst := fun b vs f h => by
    have hb : b ≠ a := by rintro rfl; exact s.dis n _ hn f
    rw [upd_ne hb]; exact h
  scr := fun b o vs h => by
    have hm := s.dom n a hn
    rw [upd_ne (by rintro rfl; rw [h] at hm; exact hm)]; exact h
theorem ext_upd (s : SRel K W H S) (hn : W.m[n]? = some a) : Ext K W H W (upd H a o) :=
  ⟨ext_upd0 s hn, fun b h => ⟨h, upd_ne (by rintro rfl; exact (s.rsd _ h).2.1 (List.mem_of_getElem? hn))⟩⟩
theorem SRel.upd (s : SRel K W H S) (hn : W.m[n]? = some a) (hm : Mut (some o)) (h : ORel K W (L2.upd H a o) a ob) : SRel K W (L2.upd H a o) (S.set n ob) where
  len := by rw [List.length_set]; exact s.len
  inj := s.inj
  dom := fun k b hb => by
    by_cases c : b = a
    · subst c; rw [upd_same]; exact hm
    · rw [upd_ne c]; exact s.dom k b hb
  fzd := fun b f => by
    have hb : b ≠ a := by rintro rfl; exact s.dis n _ hn f
    rw [upd_ne hb]; exact s.fzd b f
  dis := s.dis
  rsd := fun b hb => by
    rw [upd_ne (by rintro rfl; exact (s.rsd _ hb).2.1 (List.mem_of_getElem? hn))]; exact s.rsd b hb
  obj := fun k b ob' hb h' => by
    by_cases c : k = n
    · subst c
      have e : b = a := by rw [hn] at hb; exact (Option.some.inj hb).symm
      subst e
      have hl : k < S.length := by rw [← s.len]; exact (List.getElem?_eq_some_iff.mp hb).1
      rw [List.getElem?_set_self hl] at h'
      cases h'
      exact h
    · rw [List.getElem?_set_ne (fun q => c q.symm)] at h'
      have hne : b ≠ a := by
        rintro rfl
        exact c ((List.getElem_inj s.inj).mp ((List.getElem?_eq_some_iff.mp hb).2.trans (List.getElem?_eq_some_iff.mp hn).2.symm))
      exact (s.obj k b ob' hb h').ext (ext_upd0 s hn) (upd_ne hne)
theorem SRel.at (s : SRel K W H S) (h : S[n]? = some ob) : ∃ a, W.m[n]? = some a ∧ ORel K W H a ob := by
  have hl : n < W.m.length := by rw [s.len]; exact (List.getElem?_eq_some_iff.mp h).1
  exact ⟨_, List.getElem?_eq_getElem hl, s.obj n _ ob (List.getElem?_eq_getElem hl) h⟩
end store

/-! ### results -/
inductive Rs (α : Type) where
  | ok (a : α) (S : So) | ex (C : Addr) (S : So) | no
def Rs.bind {α β : Type} : Rs α → (α → So → Rs β) → Rs β
  | .ok a S, k => k a S
  | .ex C S, _ => .ex C S
  | .no, _ => .no
inductive Fl where
  | nx (e : En) (S : So) | rt (d : D) (S : So) | bk (e : En) (S : So) | ct (e : En) (S : So) | ex (C : Addr) (e : En) (S : So) | no
abbrev FE := En → So → Rs D
abbrev FT := En → So → Rs Bool
abbrev FA := En → So → Rs (List D)
abbrev FS := En → So → Fl

section post
variable (K : PySem.W.Frag)
def Post {α β : Type} (R : PySem.W.Frag → Wd → Hp → α → β → Prop) (W : Wd) (H : Hp) (r : Rs α) (Q : β → Hp → Prop) (E : XK) : Prop := match r with
  | .ok a S => ∀ W' H' b, Ext K W H W' H' → SRel K W' H' S → R K W' H' a b → Q b H'
  | .ex C S => ∀ W' H' d, Ext K W H W' H' → SRel K W' H' S → E (.ref C) d H'
  | .no => False
def PostS (W : Wd) (H : Hp) (r : Fl) (Z : Ends) (Wx : WX) : Prop := match r with
  | .nx e S => ∀ W' H' σ, Ext K W H W' H' → SRel K W' H' S → ERel K W' H' e σ → Z.nx σ H'
  | .rt d S => ∀ W' H' v, Ext K W H W' H' → SRel K W' H' S → DRel K W' H' d v → Z.rt v H'
  | .bk e S => ∀ W' H' σ, Ext K W H W' H' → SRel K W' H' S → ERel K W' H' e σ → Z.bk σ H'
  | .ct e S => ∀ W' H' σ, Ext K W H W' H' → SRel K W' H' S → ERel K W' H' e σ → Z.ct σ H'
  | .ex C e S => ∀ W' H' σ d, Ext K W H W' H' → SRel K W' H' S → ERel K W' H' e σ → Wx (.ref C) d σ H'
  | .no => False
end post
end PF

namespace PF
open PySem L2
/-! ### the weakest readings -/
section weak
variable (X : Cx)
def wE (e : Expr) : TE := fun σ H Q => ∀ (pins : List (Addr × Obj)) (s : Shared), Inv X pins σ H s → wpAny (model X.prog X.w) X.A (eval e X.env) (EP X pins σ Q) X.xe s
def wT (e : Expr) : TT := fun σ H Q => ∀ (pins : List (Addr × Obj)) (s : Shared), Inv X pins σ H s → wpAny (model X.prog X.w) X.A (isTrue e X.env (eval e X.env)) (TP X pins σ Q) X.xe s
def wW (e : Expr) : TT := fun σ H Q => ∀ (whole : Sem Value) (pins : List (Addr × Obj)) (s : Shared), Inv X pins σ H s → wpAny (model X.prog X.w) X.A (isTrue e X.env whole) (TP X pins σ Q) X.xe s
def wA (es : List Expr) : TA := fun σ H Q => ∀ (pos : Pos) (pins : List (Addr × Obj)) (s : Shared), Inv X pins σ H s → wpAny (model X.prog X.w) X.A (spliced (backTo pos (starEach es X.env))) (AP X pins σ Q) X.xe s
def wS (st : Stmt) : TS := fun Z σ H => ∀ (pins : List (Addr × Obj)) (s : Shared), Inv X pins σ H s → wpAny (model X.prog X.w) X.A (exec st X.env) (SP X pins Z) X.xe s
def wSs (st : List Stmt) : TS := fun Z σ H => ∀ (pins : List (Addr × Obj)) (s : Shared), Inv X pins σ H s → wpAny (model X.prog X.w) X.A (execs st X.env) (SP X pins Z) X.xe s
def wG (tg : Expr) : TG := fun v σ H Q => ∀ (pins : List (Addr × Obj)) (s : Shared) (u : Value), Inv X pins σ H s → RelV v u → wpAny (model X.prog X.w) X.A (assign tg X.env u) (fun _ s' => ∃ σ' H', Inv X pins σ' H' s' ∧ Q σ' H') X.xe s
def wGs (ts : List Expr) : TGs := fun vs σ H Q => ∀ (pins : List (Addr × Obj)) (s : Shared) (us : List Value), Inv X pins σ H s → Vals vs us → wpAny (model X.prog X.w) X.A (assignInOrder ((assignEach ts X.env).map (·.2)) us) (fun _ s' => ∃ σ' H', Inv X pins σ' H' s' ∧ Q σ' H') X.xe s
def wI (tg iter : Expr) : TI := fun σ H R => ∀ (pins : List (Addr × Obj)) (s : Shared), Inv X pins σ H s → wpAny (model X.prog X.w) X.A (eval iter X.env) (fun v s1 => wpAny (model X.prog X.w) X.A (pyIter v) (PIE X pins σ tg R) X.xe s1) X.xe s
def wO (e : Option Expr) : TO := fun σ H Q => ∀ (pins : List (Addr × Obj)) (s : Shared), Inv X pins σ H s → wpAny (model X.prog X.w) X.A (evalPart e X.env) (fun u s' => ∃ o H', Inv X pins σ H' s' ∧ IsPart u o ∧ Q o H') X.xe s
end weak
section weak
variable {X : Cx} {e tg iter : Expr} {es : List Expr} {st : Stmt} {sts : List Stmt}
theorem pe_w : PE X e (wE X e) := ⟨fun pins s σ H Q I h => h pins s I⟩
theorem pt_w : PT X e (wT X e) := ⟨fun pins s σ H Q I h => h pins s I⟩
theorem pw_w : PW X e (wW X e) := ⟨fun whole pins s σ H Q I h => h whole pins s I⟩
theorem pa_w : PA X es (wA X es) := ⟨fun pos pins s σ H Q I h => h pos pins s I⟩
theorem ps_w : PS X st (wS X st) := ⟨fun pins s σ H Z I h => h pins s I⟩
theorem pss_w : PSs X sts (wSs X sts) := ⟨fun pins s σ H Z I h => h pins s I⟩
theorem pg_w : PG X e (wG X e) := ⟨fun pins s σ H v u Q I r h => h pins s u I r⟩
theorem pgs_w : PGs X es (wGs X es) := ⟨fun pins s σ H v u Q I r h => h pins s u I r⟩
theorem pi_w : PI X tg iter (wI X tg iter) := ⟨fun pins s σ H R I h => h pins s I⟩
theorem po_w {o : Option Expr} : PO X o (wO X o) := ⟨fun pins s σ H Q I h => h pins s I⟩
variable {σ : St} {H : Hp}
theorem PE_w {t : TE} {Q : VK} (p : PE X e t) (h : t σ H Q) : wE X e σ H Q := fun pins s I => p.run pins s σ H Q I h
theorem PT_w {t : TT} {Q : Bool → Hp → Prop} (p : PT X e t) (h : t σ H Q) : wT X e σ H Q := fun pins s I => p.run pins s σ H Q I h
theorem PW_w {t : TT} {Q : Bool → Hp → Prop} (p : PW X e t) (h : t σ H Q) : wW X e σ H Q := fun whole pins s I => p.run whole pins s σ H Q I h
theorem PA_w {t : TA} {Q : List V → Hp → Prop} (p : PA X es t) (h : t σ H Q) : wA X es σ H Q := fun pos pins s I => p.run pos pins s σ H Q I h
theorem PS_w {t : TS} {Z : Ends} (p : PS X st t) (h : t Z σ H) : wS X st Z σ H := fun pins s I => p.run pins s σ H Z I h
theorem PSs_w {t : TS} {Z : Ends} (p : PSs X sts t) (h : t Z σ H) : wSs X sts Z σ H := fun pins s I => p.run pins s σ H Z I h
theorem PG_w {t : TG} {v : V} {Q : St → Hp → Prop} (p : PG X e t) (h : t v σ H Q) : wG X e v σ H Q := fun pins s u I r => p.run pins s σ H v u Q I r h
theorem PGs_w {t : TGs} {v : List V} {Q : St → Hp → Prop} (p : PGs X es t) (h : t v σ H Q) : wGs X es v σ H Q := fun pins s u I r => p.run pins s σ H v u Q I r h
theorem PI_w {t : TI} {R : It → Hp → Prop} (p : PI X tg iter t) (h : t σ H R) : wI X tg iter σ H R := fun pins s I => p.run pins s σ H R I h
theorem PO_w {o : Option Expr} {t : TO} {Q : Option Int → Hp → Prop} (p : PO X o t) (h : t σ H Q) : wO X o σ H Q := fun pins s I => p.run pins s σ H Q I h
end weak

/-! ### posts -/
section post
variable {K : PySem.W.Frag} {W W1 : Wd} {H H1 : Hp} {α β γ δ : Type} {R : PySem.W.Frag → Wd → Hp → α → γ → Prop} {R' : PySem.W.Frag → Wd → Hp → β → δ → Prop}
theorem Post.later {r : Rs α} {Q : γ → Hp → Prop} {E : XK} (h : Post K R W H r Q E) (e : Ext K W H W1 H1) : Post K R W1 H1 r Q E := by
  cases r with
  | ok a S => exact fun W' H' b x => h W' H' b (e.trans x)
  | ex C S => exact fun W' H' d x => h W' H' d (e.trans x)
  | no => exact h
theorem Post.bind {r : Rs α} {k : α → So → Rs β} {Q : δ → Hp → Prop} {Q1 : γ → Hp → Prop} {E : XK} (h : Post K R' W H (r.bind k) Q E)
    (c : ∀ a S1 W1 H1 x, Ext K W H W1 H1 → SRel K W1 H1 S1 → R K W1 H1 a x → Post K R' W1 H1 (k a S1) Q E → Q1 x H1) : Post K R W H r Q1 E := by
  cases r with
  | ok a S => exact fun W' H' b x s q => c a S W' H' b x s q (Post.later h x)
  | ex C S => exact h
  | no => exact h
theorem PostS.later {r : Fl} {Z : Ends} {Wx : WX} (h : PostS K W H r Z Wx) (e : Ext K W H W1 H1) : PostS K W1 H1 r Z Wx := by
  cases r with
  | nx a S => exact fun W' H' b x => h W' H' b (e.trans x)
  | rt a S => exact fun W' H' b x => h W' H' b (e.trans x)
  | bk a S => exact fun W' H' b x => h W' H' b (e.trans x)
  | ct a S => exact fun W' H' b x => h W' H' b (e.trans x)
  | ex C a S => exact fun W' H' b d x => h W' H' b d (e.trans x)
  | no => exact h
theorem Post.here {a : α} {S : So} {Q : γ → Hp → Prop} {E : XK} {b : γ} (h : Post K R W H (.ok a S) Q E) (s : SRel K W H S) (r : R K W H a b) : Q b H := h W H b Ext.refl s r
end post
def EqB : PySem.W.Frag → Wd → Hp → Bool → Bool → Prop := fun _ _ _ a b => b = a
/-! ### the judgements -/
def Wish (Wx : WX) (σ : St) : XK := fun c d H => Wx c d σ H
structure PFE (X : Cx) (Wx : WX) (e : Expr) (f : FE) : Prop where
  run : ∀ (W : Wd) (H : Hp) (σ : St) (en : En) (S : So) (Q : VK), ERel X.K W H en σ → SRel X.K W H S → Post X.K DRel W H (f en S) Q (Wish Wx σ) → wE X e σ H Q
structure PFT (X : Cx) (Wx : WX) (e : Expr) (f : FT) : Prop where
  run : ∀ (W : Wd) (H : Hp) (σ : St) (en : En) (S : So) (Q : Bool → Hp → Prop), ERel X.K W H en σ → SRel X.K W H S → Post X.K EqB W H (f en S) Q (Wish Wx σ) → wT X e σ H Q
structure PFW (X : Cx) (Wx : WX) (e : Expr) (f : FT) : Prop where
  run : ∀ (W : Wd) (H : Hp) (σ : St) (en : En) (S : So) (Q : Bool → Hp → Prop), ERel X.K W H en σ → SRel X.K W H S → Post X.K EqB W H (f en S) Q (Wish Wx σ) → wW X e σ H Q
structure PFA (X : Cx) (Wx : WX) (es : List Expr) (f : FA) : Prop where
  run : ∀ (W : Wd) (H : Hp) (σ : St) (en : En) (S : So) (Q : List V → Hp → Prop), ERel X.K W H en σ → SRel X.K W H S → Post X.K DRels W H (f en S) Q (Wish Wx σ) → wA X es σ H Q
structure PFS (X : Cx) (Wx : WX) (st : Stmt) (f : FS) : Prop where
  run : ∀ (W : Wd) (H : Hp) (σ : St) (en : En) (S : So) (Z : Ends), ERel X.K W H en σ → SRel X.K W H S → PostS X.K W H (f en S) Z Wx → wS X st Z σ H
structure PFB (X : Cx) (Wx : WX) (st : List Stmt) (f : FS) : Prop where
  run : ∀ (W : Wd) (H : Hp) (σ : St) (en : En) (S : So) (Z : Ends), ERel X.K W H en σ → SRel X.K W H S → PostS X.K W H (f en S) Z Wx → wSs X st Z σ H
/-- targets -/
abbrev FG := D → En → So → Option (En × So)
abbrev FGs := List D → En → So → Option (En × So)
def PostG (K : PySem.W.Frag) (W : Wd) (H : Hp) (r : Option (En × So)) (Q : St → Hp → Prop) : Prop := match r with
  | some (e, S) => ∀ W' H' σ, Ext K W H W' H' → SRel K W' H' S → ERel K W' H' e σ → Q σ H'
  | none => False
structure PFG (X : Cx) (e : Expr) (g : FG) : Prop where
  run : ∀ (W : Wd) (H : Hp) (σ : St) (en : En) (S : So) (d : D) (v : V) (Q : St → Hp → Prop), ERel X.K W H en σ → SRel X.K W H S → DRel X.K W H d v → PostG X.K W H (g d en S) Q → wG X e v σ H Q
structure PFGs (X : Cx) (e : List Expr) (g : FGs) : Prop where
  run : ∀ (W : Wd) (H : Hp) (σ : St) (en : En) (S : So) (d : List D) (v : List V) (Q : St → Hp → Prop), ERel X.K W H en σ → SRel X.K W H S → DRels X.K W H d v → PostG X.K W H (g d en S) Q → wGs X e v σ H Q
/-- what is walked: fixed items, or a list of the store as it stands at each turn -/
inductive ItD where
  | items (ds : List D) | live (n : Nat)
def ItD.at (S : So) (i : Nat) : ItD → Option (Option D)
  | .items ds => some ds[i]?
  | .live n => match S[n]? with
    | some (.lst ds) => some ds[i]?
    | _ => none
def ItR (K : PySem.W.Frag) (W : Wd) (H : Hp) (t : ItD) (J : It) : Prop := ∀ W' H' S, Ext K W H W' H' → SRel K W' H' S → ∀ (i : Nat), match t.at S i with
  | some (some d) => J.go i H' ∧ ∀ x H'', J.yld i H' x H'' → Ext K W' H' W' H'' ∧ SRel K W' H'' S ∧ DRel K W' H'' d x
  | some none => J.stop i H'
  | none => True
theorem ItR.ext {K : PySem.W.Frag} {W W' : Wd} {H H' : Hp} {t : ItD} {J : It} (h : ItR K W H t J) (e : Ext K W H W' H') : ItR K W' H' t J := fun W1 H1 S x => h W1 H1 S (e.trans x)
abbrev FI := En → So → Rs ItD
structure PFI (X : Cx) (Wx : WX) (tg iter : Expr) (f : FI) : Prop where
  run : ∀ (W : Wd) (H : Hp) (σ : St) (en : En) (S : So) (Q : It → Hp → Prop), ERel X.K W H en σ → SRel X.K W H S → Post X.K ItR W H (f en S) Q (Wish Wx σ) → wI X tg iter σ H Q

/-! ### names, constants, operators -/
def fVar (i : Nat) : FE := fun en S => match en[i]? with
  | some (some d) => .ok d S
  | _ => .no
def fC (d : D) : FE := fun _ S => .ok d S
/-- from an operation on data -/
def ofO : Option (D × So) → Rs D
  | some (d, S) => .ok d S
  | none => .no
abbrev G2 := D → D → So → Option (D × So)
def fOp (g : G2) (fa fb : FE) : FE := fun en S => (fa en S).bind fun a S1 => (fb en S1).bind fun b S2 => ofO (g a b S2)
def PostO (K : PySem.W.Frag) (W : Wd) (H : Hp) (r : Option (D × So)) (Q : VK) : Prop := match r with
  | some (d, S) => ∀ W' H' v, Ext K W H W' H' → SRel K W' H' S → DRel K W' H' d v → Q v H'
  | none => False
theorem postO {K : PySem.W.Frag} {W : Wd} {H : Hp} {r : Option (D × So)} {Q : VK} {E : XK} (h : Post K DRel W H (ofO r) Q E) : PostO K W H r Q := by
  cases r with
  | none => exact h
  | some p => obtain ⟨d, S⟩ := p; exact h
/-- an operation by values is told by one on data -/
def OpD (K : PySem.W.Frag) (r : R2) (g : G2) : Prop := ∀ (W : Wd) (H : Hp) (S : So) (x y : V) (a b : D) (Q : VK), SRel K W H S → DRel K W H a x → DRel K W H b y → PostO K W H (g a b S) Q → r x y H Q
theorem OpD.or {K : PySem.W.Frag} {r r' : R2} {g g' : G2} (h : OpD K r g) (h' : OpD K r' g') : OpD K (fun x y H Q => r x y H Q ∨ r' x y H Q) (fun a b S => (g a b S).orElse fun _ => g' a b S) := by
  intro W H S x y a b Q s ra rb p
  cases e : g a b S with
  | none => dsimp only at p; rw [e] at p; exact .inr (h' W H S x y a b Q s ra rb p)
  | some q => dsimp only at p; rw [e] at p; exact .inl (h W H S x y a b Q s ra rb (by rw [e]; exact p))
section rules
variable {X : Cx} {Wx : WX} {a b c e : Expr} {es : List Expr} {fa fb fc : FE} {pos : Pos}
theorem pf_var (i : Nat) {x : Str} {pos : Pos} (hN : X.N[i]? = some x := by rfl) (hv : Vis X.env.scope x := by first | exact Or.inl rfl | exact Or.inr (Or.inl rfl) | exact Or.inr (Or.inr rfl)) (hd : (x == ("__debug__" : Str)) = false := by decide)
    (hcd : (x == ("__classdict__" : Str)) = false := by decide) : PFE X Wx (.Name x pos) (fVar i) := by
  refine ⟨fun W H σ en S Q he hs hp => PE_w (pe_var hN hv hd hcd) ?_⟩
  unfold fVar at hp
  split at hp
  · rename_i d hd'
    obtain ⟨v, h1, h2⟩ := he.2 i d hd'
    exact ⟨v, h1, hp.here hs h2⟩
  · exact hp.elim
theorem pf_const {v : V} {d : D} (p : PE X e (tC v)) (h : ∀ W H, DRel X.K W H d v) : PFE X Wx e (fC d) := ⟨fun W H σ en S Q he hs hp => PE_w p (Post.here hp hs (h W H))⟩
theorem pf_int {i j pos} : PFE X Wx (.Constant (.int i) j pos) (fC (.int i)) := pf_const pe_int fun _ _ => by unfold DRel; rfl
theorem pf_bl {i j pos} : PFE X Wx (.Constant (.bool i) j pos) (fC (.bl i)) := pf_const pe_bl fun _ _ => by unfold DRel; rfl
theorem pf_non {j pos} : PFE X Wx (.Constant .none j pos) (fC .non) := pf_const pe_non fun _ _ => by unfold DRel; rfl
theorem pf_str {i j pos} : PFE X Wx (.Constant (.str i) j pos) (fC (.str i)) := pf_const pe_str fun _ _ => by unfold DRel; rfl
/-- a module's constant -/
theorem pf_glob {x : Str} {i : Int} {u : Value} {pos : Pos} (hg : Gl X x) (hm : X.mg x = some u) (r : RelV (.int i) u) (hd : (x == ("__debug__" : Str)) = false := by decide) : PFE X Wx (.Name x pos) (fC (.int i)) :=
  pf_const (pe_glob hg hm r hd) fun _ _ => by unfold DRel; rfl
theorem pf_globS {x : Str} {i : Str} {u : Value} {pos : Pos} (hg : Gl X x) (hm : X.mg x = some u) (r : RelV (.str i) u) (hd : (x == ("__debug__" : Str)) = false := by decide) : PFE X Wx (.Name x pos) (fC (.str i)) :=
  pf_const (pe_glob hg hm r hd) fun _ _ => by unfold DRel; rfl
/-- two expressions, then a thing by values -/
theorem bind2 {W : Wd} {H : Hp} {σ : St} {en : En} {S : So} {Q : VK} {g : G2} {r : V → V → Hp → Prop} (ha : PFE X Wx a fa) (hb : PFE X Wx b fb) (he : ERel X.K W H en σ) (hs : SRel X.K W H S) (hp : Post X.K DRel W H (fOp g fa fb en S) Q (Wish Wx σ))
    (h : ∀ W2 H2 S2 x y d1 d2, Ext X.K W H W2 H2 → SRel X.K W2 H2 S2 → DRel X.K W2 H2 d1 x → DRel X.K W2 H2 d2 y → PostO X.K W2 H2 (g d1 d2 S2) Q → r x y H2) : wE X a σ H fun x H1 => wE X b σ H1 fun y H2 => r x y H2 := by
  refine ha.run W H σ en S _ he hs (Post.bind hp fun d1 S1 W1 H1 x e1 s1 r1 p1 => ?_)
  refine hb.run W1 H1 σ en S1 _ (he.ext e1) s1 (Post.bind p1 fun d2 S2 W2 H2 y e2 s2 r2 p2 => ?_)
  exact h W2 H2 S2 x y d1 d2 (e1.trans e2) s2 (r1.ext e2) r2 (postO p2)
theorem pf_op {op : Operator} {r : R2} {g : G2} (ho : OpR X (binaryOp op) r) (hg : OpD X.K r g) (ha : PFE X Wx a fa) (hb : PFE X Wx b fb) : PFE X Wx (.BinOp a op b pos) (fOp g fa fb) :=
  ⟨fun W H σ en S Q he hs hp => PE_w (pe_op ho pe_w pe_w) (bind2 ha hb he hs hp fun W2 H2 S2 x y d1 d2 _ s2 r1 r2 p => hg W2 H2 S2 x y d1 d2 Q s2 r1 r2 p)⟩
theorem pf_cmp {op : CmpOp} {r : R2} {g : G2} (ho : OpR X (compareOp op) r) (hg : OpD X.K r g) (ha : PFE X Wx a fa) (hb : PFE X Wx b fb) (hm : behindInMarks op b = false) : PFE X Wx (.Compare a [op] [b] pos) (fOp g fa fb) :=
  ⟨fun W H σ en S Q he hs hp => PE_w (pe_cmpR ho pe_w pe_w hm) (bind2 ha hb he hs hp fun W2 H2 S2 x y d1 d2 _ s2 r1 r2 p => hg W2 H2 S2 x y d1 d2 Q s2 r1 r2 p)⟩
/-- a comparison as a test -/
def isB : D → So → Rs Bool
  | .bl b, S => .ok b S
  | _, _ => .no
def fTst (f : FE) : FT := fun en S => (f en S).bind isB
theorem pft_cmp {op : CmpOp} {r : R2} {g : G2} (ho : OpR X (compareOp op) r) (hg : OpD X.K r g) (ha : PFE X Wx a fa) (hb : PFE X Wx b fb) (hm : behindInMarks op b = false) : PFT X Wx (.Compare a [op] [b] pos) (fTst (fOp g fa fb)) := by
  refine ⟨fun W H σ en S Q he hs hp => PT_w (pt_cmpR ho pe_w pe_w hm) ?_⟩
  have hp' := Post.bind (R := DRel) (Q1 := fun x H' => ∃ k, x = .bl k ∧ Q k H') hp fun d S1 W1 H1 x e1 s1 r1 p1 => by
    cases d with
    | bl b => unfold DRel at r1; exact ⟨b, r1, p1.here s1 rfl⟩
    | _ => exact p1.elim
  exact bind2 ha hb he hs hp' fun W2 H2 S2 x y d1 d2 _ s2 r1 r2 p => hg W2 H2 S2 x y d1 d2 _ s2 r1 r2 p
end rules
end PF

namespace PF
open PySem L2
section tests
variable {X : Cx} {Wx : WX} {a b c e : Expr} {es rest : List Expr} {fa fb fc : FE} {ga gb : FT} {pos : Pos}
/-- truth of data -/
def truD (S : So) : D → Option Bool
  | .non => some false
  | .bl b => some b
  | .int i => some (i != 0)
  | .str y => if y.length ≤ sizeLine then some ((y.length : Int) != 0) else none
  | .tup ds => some (!ds.isEmpty)
  | .scr _ => none
  | .lst ds => some (!ds.isEmpty)
  | .ref n => match S[n]? with
    | some (.lst ds) => some (!ds.isEmpty)
    | some (.dic kvs) => some (!kvs.isEmpty)
    | _ => none
def isT (d : D) (S : So) : Rs Bool := match truD S d with
  | some b => .ok b S
  | none => .no
theorem isEmpty_rel {K : PySem.W.Frag} {W : Wd} {H : Hp} {ds : List D} {vs : List V} (h : DRels K W H ds vs) : ds.isEmpty = vs.isEmpty := by
  cases ds with
  | nil => unfold DRels at h; subst h; rfl
  | cons d ds => unfold DRels at h; obtain ⟨v, r, rfl, _⟩ := h; rfl
theorem kempty_rel {K : PySem.W.Frag} {W : Wd} {H : Hp} {ds : List (Key × D)} {vs : List (Key × V)} (h : KRel K W H ds vs) : ds.isEmpty = vs.isEmpty := by
  cases ds with
  | nil => unfold KRel at h; subst h; rfl
  | cons d ds => obtain ⟨k, d⟩ := d; unfold KRel at h; obtain ⟨v, r, rfl, _⟩ := h; rfl
theorem tru_rel {K : PySem.W.Frag} {W : Wd} {H : Hp} {S : So} {d : D} {v : V} {k : Bool} (s : SRel K W H S) (r : DRel K W H d v) (h : truD S d = some k) : TruV K v H k := by
  cases d with
  | non => unfold DRel at r; subst r; simp only [truD] at h; exact (Option.some.inj h).symm
  | bl b => unfold DRel at r; subst r; simp only [truD] at h; exact (Option.some.inj h).symm
  | int b => unfold DRel at r; subst r; simp only [truD] at h; exact (Option.some.inj h).symm
  | str b =>
    unfold DRel at r; subst r; simp only [truD] at h
    split at h
    · exact ⟨by assumption, (Option.some.inj h).symm⟩
    · cases h
  | tup ds =>
    unfold DRel at r; obtain ⟨a, vs, rfl, h1, h2⟩ := r
    simp only [truD] at h
    exact .inr (.inl ⟨vs, h1, by rw [← isEmpty_rel h2]; exact (Option.some.inj h).symm⟩)
  | lst ds =>
    unfold DRel at r; obtain ⟨a, vs, rfl, h1, h2⟩ := r
    simp only [truD] at h
    exact .inl ⟨vs, h1.sq, by rw [← isEmpty_rel h2]; exact (Option.some.inj h).symm⟩
  | ref n =>
    unfold DRel at r; obtain ⟨a, rfl, h1⟩ := r
    simp only [truD] at h
    split at h
    · rename_i ds hn
      obtain ⟨vs, h2, h3⟩ := s.obj n a _ h1 hn
      exact .inl ⟨vs, .of h2, by rw [← isEmpty_rel h3]; exact (Option.some.inj h).symm⟩
    · rename_i ds hn
      obtain ⟨vs, h2, h3⟩ := s.obj n a _ h1 hn
      exact .inr (.inr ⟨vs, h2, by rw [← kempty_rel h3]; exact (Option.some.inj h).symm⟩)
    · cases h
  | scr ns => simp only [truD] at h; cases h
def fTru (f : FE) : FT := fun en S => (f en S).bind isT
/-- any expression as a test, by its truth -/
theorem pft_tru (ha : PFE X Wx a fa) (he : ∀ whole, isTrue a X.env whole = (do let v ← whole; standAt a.pos; holding [v] (truthy v)) := by intro _; rfl) : PFT X Wx a (fTru fa) := by
  refine ⟨fun W H σ en S Q he' hs hp => PT_w (pt_truth pe_w he) (ha.run W H σ en S _ he' hs (Post.bind hp fun d S1 W1 H1 x e1 s1 r1 p1 => ?_))⟩
  unfold isT at p1
  split at p1
  · rename_i k hk
    exact ⟨k, tru_rel s1 r1 hk, p1.here s1 rfl⟩
  · exact p1.elim
def fNotT (g : FT) : FT := fun en S => (g en S).bind fun k S1 => .ok (!k) S1
theorem pft_not (ha : PFT X Wx a ga) : PFT X Wx (.UnaryOp .Not a pos) (fNotT ga) := by
  refine ⟨fun W H σ en S Q he hs hp => PT_w (pt_not pt_w) (ha.run W H σ en S _ he hs (Post.bind hp fun d S1 W1 H1 x e1 s1 r1 p1 => ?_))⟩
  cases r1
  exact p1.here s1 rfl
def fAndT (g h : FT) : FT := fun en S => (g en S).bind fun k S1 => if k = true then h en S1 else .ok false S1
def fOrT (g h : FT) : FT := fun en S => (g en S).bind fun k S1 => if k = true then .ok true S1 else h en S1
theorem pfw_and1 (ha : PFT X Wx a ga) : PFW X Wx (.BoolOp .And [a] pos) ga := ⟨fun W H σ en S Q he hs hp => PW_w (pw_and1 pt_w) (ha.run W H σ en S Q he hs hp)⟩
theorem pfw_or1 (ha : PFT X Wx a ga) : PFW X Wx (.BoolOp .Or [a] pos) ga := ⟨fun W H σ en S Q he hs hp => PW_w (pw_or1 pt_w) (ha.run W H σ en S Q he hs hp)⟩
theorem pfw_and (ha : PFT X Wx a ga) (hb : PFW X Wx (.BoolOp .And (b :: rest) pos) gb) : PFW X Wx (.BoolOp .And (a :: b :: rest) pos) (fAndT ga gb) := by
  refine ⟨fun W H σ en S Q he hs hp => PW_w (pw_and pt_w pw_w) (ha.run W H σ en S _ he hs (Post.bind hp fun k S1 W1 H1 x e1 s1 r1 p1 => ?_))⟩
  cases r1
  cases k with
  | true => exact iteT (hb.run W1 H1 σ en S1 Q (he.ext e1) s1 p1)
  | false => exact iteF (p1.here s1 rfl)
theorem pfw_or (ha : PFT X Wx a ga) (hb : PFW X Wx (.BoolOp .Or (b :: rest) pos) gb) : PFW X Wx (.BoolOp .Or (a :: b :: rest) pos) (fOrT ga gb) := by
  refine ⟨fun W H σ en S Q he hs hp => PW_w (pw_or pt_w pw_w) (ha.run W H σ en S _ he hs (Post.bind hp fun k S1 W1 H1 x e1 s1 r1 p1 => ?_))⟩
  cases r1
  cases k with
  | true => exact iteT (p1.here s1 rfl)
  | false => exact iteF (hb.run W1 H1 σ en S1 Q (he.ext e1) s1 p1)
theorem pft_w (h : PFW X Wx a ga) : PFT X Wx a ga := ⟨fun W H σ en S Q he hs hp => PT_w pw_w.pt (h.run W H σ en S Q he hs hp)⟩
/-- as values, bools -/
def fAndV (f g : FE) : FE := fun en S => (f en S).bind fun d S1 => match d with
  | .bl k => if k = true then g en S1 else .ok (.bl false) S1
  | _ => .no
def fOrV (f g : FE) : FE := fun en S => (f en S).bind fun d S1 => match d with
  | .bl k => if k = true then .ok (.bl true) S1 else g en S1
  | _ => .no
def fNotV (f : FE) : FE := fun en S => (f en S).bind fun d S1 => match d with
  | .bl k => .ok (.bl (!k)) S1
  | _ => .no
theorem pf_one {op} (h : PFE X Wx a fa) : PFE X Wx (.BoolOp op [a] pos) fa := ⟨fun W H σ en S Q he hs hp => PE_w (pe_one pe_w) (h.run W H σ en S Q he hs hp)⟩
theorem pf_and (ha : PFE X Wx a fa) (hb : PFE X Wx (.BoolOp .And (b :: rest) pos) fb) : PFE X Wx (.BoolOp .And (a :: b :: rest) pos) (fAndV fa fb) := by
  refine ⟨fun W H σ en S Q he hs hp => PE_w (pe_and pe_w pe_w) (ha.run W H σ en S _ he hs (Post.bind hp fun d S1 W1 H1 x e1 s1 r1 p1 => ?_))⟩
  cases d with
  | bl k =>
    unfold DRel at r1; subst r1
    refine ⟨k, rfl, ?_⟩
    cases k with
    | true => exact iteT (hb.run W1 H1 σ en S1 Q (he.ext e1) s1 p1)
    | false => exact iteF (p1.here s1 (by unfold DRel; rfl))
  | _ => exact p1.elim
theorem pf_or (ha : PFE X Wx a fa) (hb : PFE X Wx (.BoolOp .Or (b :: rest) pos) fb) : PFE X Wx (.BoolOp .Or (a :: b :: rest) pos) (fOrV fa fb) := by
  refine ⟨fun W H σ en S Q he hs hp => PE_w (pe_or pe_w pe_w) (ha.run W H σ en S _ he hs (Post.bind hp fun d S1 W1 H1 x e1 s1 r1 p1 => ?_))⟩
  cases d with
  | bl k =>
    unfold DRel at r1; subst r1
    refine ⟨k, rfl, ?_⟩
    cases k with
    | true => exact iteT (p1.here s1 (by unfold DRel; rfl))
    | false => exact iteF (hb.run W1 H1 σ en S1 Q (he.ext e1) s1 p1)
  | _ => exact p1.elim
theorem pf_not (ha : PFE X Wx a fa) : PFE X Wx (.UnaryOp .Not a pos) (fNotV fa) := by
  refine ⟨fun W H σ en S Q he hs hp => PE_w (pe_not pe_w) (ha.run W H σ en S _ he hs (Post.bind hp fun d S1 W1 H1 x e1 s1 r1 p1 => ?_))⟩
  cases d with
  | bl k => unfold DRel at r1; subst r1; exact ⟨k, rfl, p1.here s1 (by unfold DRel; rfl)⟩
  | _ => exact p1.elim
def fIf (g : FT) (f h : FE) : FE := fun en S => (g en S).bind fun k S1 => if k = true then f en S1 else h en S1
theorem pf_ifExp (hc : PFT X Wx c ga) (ha : PFE X Wx a fa) (hb : PFE X Wx b fb) : PFE X Wx (.IfExp c a b pos) (fIf ga fa fb) := by
  refine ⟨fun W H σ en S Q he hs hp => PE_w (pe_ifExp pt_w pe_w pe_w) (hc.run W H σ en S _ he hs (Post.bind hp fun k S1 W1 H1 x e1 s1 r1 p1 => ?_))⟩
  cases r1
  cases k with
  | true => exact iteT (ha.run W1 H1 σ en S1 Q (he.ext e1) s1 p1)
  | false => exact iteF (hb.run W1 H1 σ en S1 Q (he.ext e1) s1 p1)
/-- a op b op' c -/
def fChain (g g' : G2) (fa fb fc : FE) : FE := fun en S => (fa en S).bind fun x S1 => (fb en S1).bind fun y S2 => (ofO (g x y S2)).bind fun z S3 => match z with
  | .bl k => if k = true then (fc en S3).bind fun w S4 => ofO (g' y w S4) else .ok (.bl false) S3
  | _ => .no
theorem chain_run {r r' : R2} {g g' : G2} (hg : OpD X.K r g) (hg' : OpD X.K r' g') (ha : PFE X Wx a fa) (hb : PFE X Wx b fb) (hc : PFE X Wx c fc) {W : Wd} {H : Hp} {σ : St} {en : En} {S : So} {Q : VK} (he : ERel X.K W H en σ) (hs : SRel X.K W H S)
    (hp : Post X.K DRel W H (fChain g g' fa fb fc en S) Q (Wish Wx σ)) : tChain r r' (wE X a) (wE X b) (wE X c) σ H Q := by
  refine ha.run W H σ en S _ he hs (Post.bind hp fun d1 S1 W1 H1 x e1 s1 r1 p1 => ?_)
  refine hb.run W1 H1 σ en S1 _ (he.ext e1) s1 (Post.bind p1 fun d2 S2 W2 H2 y e2 s2 r2 p2 => ?_)
  refine hg W2 H2 S2 x y d1 d2 _ s2 (r1.ext e2) r2 (postO (Post.bind p2 fun d3 S3 W3 H3 z e3 s3 r3 p3 => ?_))
  cases d3 with
  | bl k =>
    unfold DRel at r3; subst r3
    refine ⟨k, rfl, ?_⟩
    cases k with
    | true =>
      refine iteT (hc.run W3 H3 σ en S3 _ (he.ext ((e1.trans e2).trans e3)) s3 (Post.bind p3 fun d4 S4 W4 H4 w e4 s4 r4 p4 => ?_))
      exact hg' W4 H4 S4 y w d2 d4 Q s4 (r2.ext (e3.trans e4)) r4 (postO p4)
    | false => exact iteF (p3.here s3 (by unfold DRel; rfl))
  | _ => exact p3.elim
theorem pf_chain {op op' : CmpOp} {r r' : R2} {g g' : G2} (ho : OpR X (compareOp op) r) (hg : OpD X.K r g) (ho' : OpR X (compareOp op') r') (hg' : OpD X.K r' g') (ha : PFE X Wx a fa) (hb : PFE X Wx b fb) (hc : PFE X Wx c fc)
    (hm : lastMarks [op, op'] [b, c] = false := by with_unfolding_all rfl) : PFE X Wx (.Compare a [op, op'] [b, c] pos) (fChain g g' fa fb fc) :=
  ⟨fun W H σ en S Q he hs hp => PE_w (pe_chain ho ho' pe_w pe_w pe_w hm) (chain_run hg hg' ha hb hc he hs hp)⟩
theorem pft_chain {op op' : CmpOp} {r r' : R2} {g g' : G2} (ho : OpR X (compareOp op) r) (hg : OpD X.K r g) (ho' : OpR X (compareOp op') r') (hg' : OpD X.K r' g') (ha : PFE X Wx a fa) (hb : PFE X Wx b fb) (hc : PFE X Wx c fc)
    (hm : lastMarks [op, op'] [b, c] = false := by with_unfolding_all rfl) : PFT X Wx (.Compare a [op, op'] [b, c] pos) (fTst (fChain g g' fa fb fc)) := by
  refine ⟨fun W H σ en S Q he hs hp => PT_w (pt_chain ho ho' pe_w pe_w pe_w hm) ?_⟩
  have hp' := Post.bind (R := DRel) (Q1 := fun x H' => ∃ k, x = .bl k ∧ Q k H') hp fun d S1 W1 H1 x e1 s1 r1 p1 => by
    cases d with
    | bl b => unfold DRel at r1; exact ⟨b, r1, p1.here s1 rfl⟩
    | _ => exact p1.elim
  exact chain_run hg hg' ha hb hc he hs hp'
/-! arguments -/
def fNil : FA := fun _ S => .ok [] S
def fCons (f : FE) (g : FA) : FA := fun en S => (f en S).bind fun d S1 => (g en S1).bind fun ds S2 => .ok (d :: ds) S2
theorem pfa_nil : PFA X Wx [] fNil := ⟨fun W H σ en S Q he hs hp => PA_w pa_nil (Post.here hp hs DRels.nil)⟩
theorem pfa_cons {f : FE} {g : FA} (ha : PFE X Wx e f) (hr : PFA X Wx es g) (hs : starEach (e :: es) X.env = (false, eval e X.env) :: starEach es X.env := by rfl) : PFA X Wx (e :: es) (fCons f g) := by
  refine ⟨fun W H σ en S Q he hs' hp => PA_w (pa_cons pe_w pa_w hs) (ha.run W H σ en S _ he hs' (Post.bind hp fun d S1 W1 H1 x e1 s1 r1 p1 => ?_))⟩
  refine hr.run W1 H1 σ en S1 _ (he.ext e1) s1 (Post.bind p1 fun ds S2 W2 H2 xs e2 s2 r2 p2 => ?_)
  exact p2.here s2 (DRels.cons (r1.ext e2) r2)
/-- a new list: frozen, or of the store -/
def newL (mu : Bool) (ds : List D) (S : So) : D × So := if mu = true then (.ref S.length, S ++ [.lst ds]) else (.lst ds, S)
theorem new_list {K : PySem.W.Frag} {W : Wd} {H : Hp} {S : So} {ds : List D} {vs : List V} {Q : VK} {p : Addr} (mu : Bool) (s : SRel K W H S) (r : DRels K W H ds vs) (h : PostO K W H (some (newL mu ds S)) Q) (hp : H p = none) : Q (.ref p) (upd H p (.lst vs)) := by
  cases mu with
  | true => exact h (W.add p) _ (.ref p) (ext_add s hp) (s.new hp trivial ⟨vs, upd_same, r.ext (ext_add s hp)⟩) (drel_add s)
  | false => exact h (W.frz p) _ (.ref p) (ext_frz s hp) (s.frz hp) (drel_frz s hp r)
theorem new_tup {K : PySem.W.Frag} {W : Wd} {H : Hp} {S : So} {ds : List D} {vs : List V} {Q : VK} {p : Addr} (s : SRel K W H S) (r : DRels K W H ds vs) (h : PostO K W H (some (.tup ds, S)) Q) (hp : H p = none) : Q (.ref p) (upd H p (.tup vs)) :=
  h W _ (.ref p) (ext_more s hp) (s.more hp) (drel_tup s hp r)
def fTup (g : FA) : FE := fun en S => (g en S).bind fun ds S1 => if ds.length ≤ sizeLine then .ok (.tup ds) S1 else .no
theorem pf_tup {x1} {g : FA} (h : PFA X Wx es g) : PFE X Wx (.Tuple es x1 pos) (fTup g) := by
  refine ⟨fun W H σ en S Q he hs hp => PE_w (pe_tup pa_w) (h.run W H σ en S _ he hs (Post.bind hp fun ds S1 W1 H1 vs e1 s1 r1 p1 => ?_))⟩
  split at p1
  · exact ⟨by rw [← r1.length]; assumption, fun p hp' => new_tup s1 r1 p1 hp'⟩
  · exact p1.elim
def fLst (mu : Bool) (g : FA) : FE := fun en S => (g en S).bind fun ds S1 => if ds.length ≤ sizeLine then ofO (some (newL mu ds S1)) else .no
theorem pf_lst (mu : Bool) {g : FA} (h : PFA X Wx es g) : PFE X Wx (.List es pos) (fLst mu g) := by
  refine ⟨fun W H σ en S Q he hs hp => PE_w (pe_lst pa_w) (h.run W H σ en S _ he hs (Post.bind hp fun ds S1 W1 H1 vs e1 s1 r1 p1 => ?_))⟩
  split at p1
  · exact ⟨by rw [← r1.length]; assumption, fun p hp' => new_list mu s1 r1 (postO p1) hp'⟩
  · exact p1.elim
end tests

/-! ### statements -/
section stmts
variable {X : Cx} {Wx : WX} {e tg : Expr} {st : Stmt} {rest : List Stmt} {f g : FS} {fe : FE} {gt : FT} {pos : Pos}
def fNext : FS := fun en S => .nx en S
def fSeq (f g : FS) : FS := fun en S => match f en S with
  | .nx e S1 => g e S1
  | o => o
theorem pfb_nil : PFB X Wx [] fNext := ⟨fun W H σ en S Z he hs hp => PSs_w pss_nil (hp W H σ Ext.refl hs he)⟩
theorem pfb_one (h : PFS X Wx st f) : PFB X Wx [st] f := ⟨fun W H σ en S Z he hs hp => PSs_w (pss_one ps_w) (h.run W H σ en S Z he hs hp)⟩
theorem pfb_cons (h : PFS X Wx st f) (hr : PFB X Wx rest g) : PFB X Wx (st :: rest) (fSeq f g) := by
  refine ⟨fun W H σ en S Z he hs hp => PSs_w (pss_cons ps_w pss_w) (h.run W H σ en S _ he hs ?_)⟩
  unfold fSeq at hp
  cases q : f en S with
  | nx e1 S1 => rw [q] at hp; exact fun W' H' σ' x s r => hr.run W' H' σ' e1 S1 Z r s (hp.later x)
  | rt d S1 => rw [q] at hp; exact hp
  | bk d S1 => rw [q] at hp; exact hp
  | ct d S1 => rw [q] at hp; exact hp
  | ex C d S1 => rw [q] at hp; exact hp
  | no => rw [q] at hp; exact hp
/-- from an expression's result -/
def fthen {α : Type} (en : En) (r : Rs α) (k : α → So → Fl) : Fl := match r with
  | .ok a S => k a S
  | .ex C S => .ex C en S
  | .no => .no
theorem post_then {K : PySem.W.Frag} {W : Wd} {H : Hp} {σ : St} {en : En} {α γ : Type} {R : PySem.W.Frag → Wd → Hp → α → γ → Prop} {r : Rs α} {k : α → So → Fl} {Z : Ends} {Q1 : γ → Hp → Prop} (he : ERel K W H en σ) (h : PostS K W H (fthen en r k) Z Wx)
    (c : ∀ a S1 W1 H1 x, Ext K W H W1 H1 → SRel K W1 H1 S1 → R K W1 H1 a x → PostS K W1 H1 (k a S1) Z Wx → Q1 x H1) : Post K R W H r Q1 (Wish Wx σ) := by
  cases r with
  | ok a S => exact fun W' H' b x s q => c a S W' H' b x s q (PostS.later h x)
  | ex C S => exact fun W' H' d x s => h W' H' σ d x s (he.ext x)
  | no => exact h
def fExpr (f : FE) : FS := fun en S => fthen en (f en S) fun _ S1 => .nx en S1
theorem pfs_expr (h : PFE X Wx e fe) (hs : swapsWith e none pos.line X.env = pure false := by rfl) : PFS X Wx (.Expr e pos) (fExpr fe) := by
  refine ⟨fun W H σ en S Z he hs' hp => PS_w (ps_expr pe_w hs) (h.run W H σ en S _ he hs' (post_then he hp fun d S1 W1 H1 x e1 s1 r1 p1 => ?_))⟩
  exact p1 W1 H1 σ Ext.refl s1 (he.ext e1)
def fRet (f : FE) : FS := fun en S => fthen en (f en S) fun d S1 => .rt d S1
theorem pfs_ret (h : PFE X Wx e fe) : PFS X Wx (.Return (some e) pos) (fRet fe) :=
  ⟨fun W H σ en S Z he hs' hp => PS_w (ps_ret pe_w) (h.run W H σ en S _ he hs' (post_then he hp fun d S1 W1 H1 x e1 s1 r1 p1 => p1 W1 H1 x Ext.refl s1 r1))⟩
def fRetN : FS := fun en S => .rt .non S
theorem pfs_retN : PFS X Wx (.Return none pos) fRetN := ⟨fun W H σ en S Z he hs' hp => PS_w ps_retN (hp W H .non Ext.refl hs' (by unfold DRel; rfl))⟩
theorem pfs_pass : PFS X Wx (.Pass pos) fNext := ⟨fun W H σ en S Z he hs' hp => PS_w ps_pass (hp W H σ Ext.refl hs' he)⟩
def fBrk : FS := fun en S => .bk en S
def fCnt : FS := fun en S => .ct en S
theorem pfs_break : PFS X Wx (.Break pos) fBrk := ⟨fun W H σ en S Z he hs' hp => PS_w ps_break (hp W H σ Ext.refl hs' he)⟩
theorem pfs_continue : PFS X Wx (.Continue pos) fCnt := ⟨fun W H σ en S Z he hs' hp => PS_w ps_continue (hp W H σ Ext.refl hs' he)⟩
def fIte (c : FT) (f g : FS) : FS := fun en S => fthen en (c en S) fun k S1 => if k = true then f en S1 else g en S1
theorem pfs_if {c : Expr} {a b : List Stmt} (hc : PFT X Wx c gt) (ha : PFB X Wx a f) (hb : PFB X Wx b g) : PFS X Wx (.If c a b pos) (fIte gt f g) := by
  refine ⟨fun W H σ en S Z he hs' hp => PS_w (ps_if pt_w pss_w pss_w) (hc.run W H σ en S _ he hs' (post_then he hp fun k S1 W1 H1 x e1 s1 r1 p1 => ?_))⟩
  cases r1
  cases k with
  | true => exact iteT (ha.run W1 H1 σ en S1 Z (he.ext e1) s1 p1)
  | false => exact iteF (hb.run W1 H1 σ en S1 Z (he.ext e1) s1 p1)
/-- a statement that is never come to -/
def fNever : FS := fun _ _ => .no
theorem pfs_never : PFS X Wx st fNever := ⟨fun W H σ en S Z he hs' hp => hp.elim⟩
/-! targets -/
def gtName (i : Nat) : FG := fun d en S => some (en.set i (some d), S)
theorem pfg_name {i : Nat} {x : Str} (hN : X.N.Nodup) (hi : X.N[i]? = some x) (hx : Loc X.env.scope x) (hf : X.fn x = true ∨ X.env.scope.names.lookup x = some .local := by first | exact .inl rfl | exact .inr rfl | assumption) : PFG X (.Name x pos) (gtName i) :=
  ⟨fun W H σ en S d v Q he hs r hp => PG_w (pg_name hN hi hx hf) (hp W H _ Ext.refl hs (he.set r))⟩
def gtNil : FGs := fun ds en S => match ds with
  | [] => some (en, S)
  | _ => none
def gtCons (g : FG) (h : FGs) : FGs := fun ds en S => match ds with
  | d :: r => match g d en S with
    | some (e1, S1) => h r e1 S1
    | none => none
  | [] => none
theorem pfgs_nil : PFGs X [] gtNil := by
  refine ⟨fun W H σ en S d v Q he hs r hp => PGs_w pgs_nil ?_⟩
  cases d with
  | nil => unfold DRels at r; exact ⟨r, hp W H σ Ext.refl hs he⟩
  | cons d ds => exact hp.elim
theorem PostG.later {K : PySem.W.Frag} {W W1 : Wd} {H H1 : Hp} {r : Option (En × So)} {Q : St → Hp → Prop} (h : PostG K W H r Q) (x : Ext K W H W1 H1) : PostG K W1 H1 r Q := by
  cases r with
  | none => exact h
  | some p => exact fun W' H' σ y => h W' H' σ (x.trans y)
theorem pfgs_cons {es : List Expr} {g : FG} {h : FGs} (h1 : PFG X e g) (h2 : PFGs X es h) (hs : (assignEach (e :: es) X.env).map (·.2) = assign e X.env :: (assignEach es X.env).map (·.2) := by rfl) : PFGs X (e :: es) (gtCons g h) := by
  refine ⟨fun W H σ en S d v Q he hs' r hp => PGs_w (pgs_cons pg_w pgs_w hs) ?_⟩
  cases d with
  | nil => exact hp.elim
  | cons d ds =>
    unfold DRels at r
    obtain ⟨v1, vr, rfl, r1, r2⟩ := r
    refine ⟨v1, vr, rfl, h1.run W H σ en S d v1 _ he hs' r1 ?_⟩
    unfold gtCons at hp
    cases q : g d en S with
    | none => simp only [q] at hp; exact hp.elim
    | some p =>
      obtain ⟨e1, S1⟩ := p
      simp only [q] at hp
      exact fun W' H' σ' x s rr => h2.run W' H' σ' e1 S1 ds vr Q rr s (r2.ext x) (hp.later x)
def gtTup (n : Nat) (g : FGs) : FG := fun d en S => match d with
  | .tup ds => if ds.length = n then g ds en S else none
  | _ => none
theorem pfg_tup {es : List Expr} {k : Nat} {g : FGs} {n : Nat} (hc : X.calm = true) (h : PFGs X es g) (hn : (assignEach es X.env).length = n := by rfl) (hst : (assignEach es X.env).findIdx? (·.1) = none := by rfl) : PFG X (.Tuple es k pos) (gtTup n g) := by
  refine ⟨fun W H σ en S d v Q he hs' r hp => PG_w (pg_tup hc pgs_w hn hst) ?_⟩
  cases d with
  | tup ds =>
    unfold DRel at r
    obtain ⟨a, vs, rfl, r1, r2⟩ := r
    simp only [gtTup] at hp
    split at hp
    · rename_i hl
      exact ⟨a, vs, rfl, r1, by rw [← r2.length]; exact hl, h.run W H σ en S ds vs Q he hs' r2 hp⟩
    · exact hp.elim
  | _ => exact hp.elim
def flG (r : Option (En × So)) : Fl := match r with
  | some (e, S) => .nx e S
  | none => .no
theorem postG {K : PySem.W.Frag} {W : Wd} {H : Hp} {r : Option (En × So)} {Z : Ends} {Wx : WX} (h : PostS K W H (flG r) Z Wx) : PostG K W H r Z.nx := by
  cases r with
  | none => exact h
  | some p => obtain ⟨e, S⟩ := p; exact h
def fAsg (f : FE) (g : FG) : FS := fun en S => fthen en (f en S) fun d S1 => flG (g d en S1)
theorem pfs_asg {g : FG} (he : PFE X Wx e fe) (hg : PFG X tg g) (hs : swapsWithSole [tg] e pos.line X.env = pure false := by rfl) (hw : swappedStores [tg] e X.env = pure none := by rfl)
    (h1 : (assignEach [tg] X.env).map (·.2) = [assign tg X.env] := by rfl) : PFS X Wx (.Assign [tg] e pos) (fAsg fe g) :=
  ⟨fun W H σ en S Z he' hs' hp => PS_w (ps_asg pe_w pg_w hs hw h1) (he.run W H σ en S _ he' hs' (post_then he' hp fun d S1 W1 H1 x e1 s1 r1 p1 => hg.run W1 H1 σ en S1 d x _ (he'.ext e1) s1 r1 (postG p1)))⟩
theorem pfs_set {i : Nat} {x : Str} {pos' : Pos} (hN : X.N.Nodup) (hi : X.N[i]? = some x) (hx : Loc X.env.scope x) (he : PFE X Wx e fe) (hs : swapsWith e (some (.Name x pos')) pos.line X.env = pure false := by rfl) (hf : X.fn x = true ∨ X.env.scope.names.lookup x = some .local := by first | exact .inl rfl | exact .inr rfl | assumption) :
    PFS X Wx (.Assign [.Name x pos'] e pos) (fAsg fe (gtName i)) :=
  ⟨fun W H σ en S Z he' hs' hp => PS_w (ps_set (i := i) hN hi hx pe_w hs hf) (he.run W H σ en S _ he' hs' (post_then he' hp fun d S1 W1 H1 x e1 s1 r1 p1 => p1 W1 H1 _ Ext.refl s1 ((he'.ext e1).set r1)))⟩
/-- a, b = x, y -/
def fPar (i j : Nat) (fa : FA) : FS := fun en S => fthen en (fa en S) fun ds S1 => match ds with
  | [d1, d2] => .nx ((en.set i (some d1)).set j (some d2)) S1
  | _ => .no
theorem pfs_par {i j : Nat} {x y : Str} {a b : Expr} {fa : FA} {px py pt : Pos} {kt k2 pt2} (hc : X.calm = true) (hN : X.N.Nodup) (hi : X.N[i]? = some x) (hj : X.N[j]? = some y) (hij : i ≠ j)
    (hx : X.env.scope.names.lookup x = some .local) (hy : X.env.scope.names.lookup y = some .local) (ha : PFA X Wx [a, b] fa)
    (hw : swappedStores [.Tuple [.Name x px, .Name y py] kt pt] (.Tuple [a, b] k2 pt2) X.env = pure (some [x, y]))
    (hs : swapsWithSole [.Tuple [.Name x px, .Name y py] kt pt] (.Tuple [a, b] k2 pt2) pos.line X.env = pure false := by rfl) :
    PFS X Wx (.Assign [.Tuple [.Name x px, .Name y py] kt pt] (.Tuple [a, b] k2 pt2) pos) (fPar i j fa) := by
  refine ⟨fun W H σ en S Z he' hs' hp => PS_w (ps_par hc hN hi hj hij hx hy pa_w hw hs) (ha.run W H σ en S _ he' hs' (post_then he' hp fun ds S1 W1 H1 vs e1 s1 r1 p1 => ?_))⟩
  match ds, r1, p1 with
  | [d1, d2], r1, p1 =>
    unfold DRels at r1
    obtain ⟨v1, vr, rfl, q1, r2⟩ := r1
    unfold DRels at r2
    obtain ⟨v2, vr2, rfl, q2, r3⟩ := r2
    unfold DRels at r3
    subst r3
    exact ⟨v1, v2, rfl, p1 W1 H1 _ Ext.refl s1 (((he'.ext e1).set q1).set q2)⟩
  | [], _, p1 => exact p1.elim
  | [_], _, p1 => exact p1.elim
  | _ :: _ :: _ :: _, _, p1 => exact p1.elim
/-- x op= e -/
def fAug (i : Nat) (f : FE) (g : G2) : FS := fun en S => match en[i]? with
  | some (some x) => fthen en (f en S) fun y S1 => match g x y S1 with
    | some (d, S2) => .nx (en.set i (some d)) S2
    | none => .no
  | _ => .no
theorem pfs_aug {i : Nat} {x : Str} {op : Operator} {r : R2} {g : G2} {pos' : Pos} (hN : X.N.Nodup) (hi : X.N[i]? = some x) (hx : Loc X.env.scope x) (ho : OpR X (inplaceOp op) r) (hg : OpD X.K r g) (he : PFE X Wx e fe)
    (hf : X.fn x = true ∨ X.env.scope.names.lookup x = some .local := by first | exact .inl rfl | exact .inr rfl | assumption) : PFS X Wx (.AugAssign (.Name x pos') op e pos) (fAug i fe g) := by
  refine ⟨fun W H σ en S Z he' hs' hp => PS_w (ps_aug (i := i) (ti := r) hN hi hx pe_w ho hf) ?_⟩
  unfold fAug at hp
  split at hp
  · rename_i d hd
    obtain ⟨v, hv, rv⟩ := he'.2 i d hd
    refine ⟨v, hv, he.run W H σ en S _ he' hs' (post_then he' hp fun y S1 W1 H1 u e1 s1 r1 p1 => ?_)⟩
    refine hg W1 H1 S1 v u d y _ s1 (rv.ext e1) r1 ?_
    cases q : g d y S1 with
    | none => rw [q] at p1; exact p1.elim
    | some p =>
      obtain ⟨d2, S2⟩ := p
      rw [q] at p1
      exact fun W2 H2 z e2 s2 r2 => p1 W2 H2 _ e2 s2 (((he'.ext e1).ext e2).set r2)
  · exact hp.elim
/-! while -/
def fWhile (c : FT) (b : FS) : Nat → FS
  | 0 => fun _ _ => .no
  | n + 1 => fun en S => fthen en (c en S) fun k S1 => if k = true then (match b en S1 with
    | .nx e2 S2 => fWhile c b n e2 S2
    | .ct e2 S2 => fWhile c b n e2 S2
    | .bk e2 S2 => .nx e2 S2
    | .rt d S2 => .rt d S2
    | .ex C e2 S2 => .ex C e2 S2
    | .no => .no) else .nx en S1
theorem pfs_while {c : Expr} {body : List Stmt} (n : Nat) (hp : PassesOwn (model X.prog X.w) X.A X.env X.xe) (hc : PFT X Wx c gt) (hb : PFB X Wx body f) : PFS X Wx (.While c body [] pos) (fWhile gt f n) := by
  refine ⟨fun W H σ en S Z he hs h => PS_w (ps_while hp pt_w pss_w) ?_⟩
  refine ⟨fun m σ1 H1 => ∃ W1 en1 S1, ERel X.K W1 H1 en1 σ1 ∧ SRel X.K W1 H1 S1 ∧ PostS X.K W1 H1 (fWhile gt f m en1 S1) Z Wx, ⟨n, W, en, S, he, hs, h⟩, ?_⟩
  rintro m σ1 H1 ⟨W1, en1, S1, he1, hs1, h1⟩
  cases m with
  | zero => exact h1.elim
  | succ m =>
    refine hc.run W1 H1 σ1 en1 S1 _ he1 hs1 (post_then he1 h1 fun k S2 W2 H2 x e2 s2 r2 p2 => ?_)
    cases r2
    cases k with
    | false => exact iteF (p2 W2 H2 σ1 Ext.refl s2 (he1.ext e2))
    | true =>
      refine iteT ⟨fun σ' H' => ∃ W1 en1 S1, ERel X.K W1 H' en1 σ' ∧ SRel X.K W1 H' S1 ∧ PostS X.K W1 H' (fWhile gt f m en1 S1) Z Wx, fun σ' H' q => ⟨m, Nat.lt_succ_self m, q⟩, ?_⟩
      refine hb.run W2 H2 σ1 en1 S2 _ (he1.ext e2) s2 ?_
      simp only [if_true] at p2
      cases q : f en1 S2 with
      | nx a b => rw [q] at p2; exact fun W' H' σ' x s r => ⟨W', a, b, r, s, PostS.later p2 x⟩
      | ct a b => rw [q] at p2; exact fun W' H' σ' x s r => ⟨W', a, b, r, s, PostS.later p2 x⟩
      | bk a b => rw [q] at p2; exact p2
      | rt a b => rw [q] at p2; exact p2
      | ex a b c => rw [q] at p2; exact p2
      | no => rw [q] at p2; exact p2
/-! for -/
/-- over fixed items -/
def forL (g : FG) (b : FS) : List D → FS
  | [] => fun en S => .nx en S
  | d :: ds => fun en S => match g d en S with
    | none => .no
    | some (e1, S1) => match b e1 S1 with
      | .nx e2 S2 => forL g b ds e2 S2
      | .ct e2 S2 => forL g b ds e2 S2
      | .bk e2 S2 => .nx e2 S2
      | .rt d S2 => .rt d S2
      | .ex C e2 S2 => .ex C e2 S2
      | .no => .no
/-- over a list of the store, k turns left at most -/
def forR (g : FG) (b : FS) (n : Nat) : Nat → Nat → FS
  | 0, _ => fun _ _ => .no
  | k + 1, i => fun en S => match S[n]? with
    | some (.lst ds) => match ds[i]? with
      | none => .nx en S
      | some d => match g d en S with
        | none => .no
        | some (e1, S1) => match b e1 S1 with
          | .nx e2 S2 => forR g b n k (i + 1) e2 S2
          | .ct e2 S2 => forR g b n k (i + 1) e2 S2
          | .bk e2 S2 => .nx e2 S2
          | .rt d S2 => .rt d S2
          | .ex C e2 S2 => .ex C e2 S2
          | .no => .no
    | _ => .no
def fFor (m : Nat) (fi : FI) (g : FG) (b : FS) : FS := fun en S => fthen en (fi en S) fun t S1 => match t with
  | .items ds => forL g b ds en S1
  | .live n => forR g b n m 0 en S1
theorem pfs_for {iter : Expr} {body : List Stmt} {fi : FI} {g : FG} (m : Nat) (hp : PassesOwn (model X.prog X.w) X.A X.env X.xe) (hc : X.calm = true) (hi : PFI X Wx tg iter fi) (hg : PFG X tg g) (hb : PFB X Wx body f)
    (hs : ∀ x, foldedSetIterable iter X.env x = pure x := by intro _; rfl) : PFS X Wx (.For tg iter body [] pos) (fFor m fi g f) := by
  refine ⟨fun W H σ en S Z he hs' h => PS_w (ps_for hp hc pi_w pg_w pss_w hs) ?_⟩
  refine hi.run W H σ en S _ he hs' (post_then he h fun t S1 W1 H1 J e1 s1 r1 p1 => ?_)
  cases t with
  | items ds =>
    refine ⟨fun i k σ2 H2 => ∃ W2 en2 S2, k = ds.length - i ∧ i ≤ ds.length ∧ Ext X.K W1 H1 W2 H2 ∧ ERel X.K W2 H2 en2 σ2 ∧ SRel X.K W2 H2 S2 ∧ PostS X.K W2 H2 (forL g f (ds.drop i) en2 S2) Z Wx, ⟨_, W1, en, S1, rfl, Nat.zero_le _, Ext.refl, he.ext e1, s1, p1⟩, ?_⟩
    rintro i k σ2 H2 ⟨W2, en2, S2, hk, hi', x2, he2, hs2, h2⟩
    have hr := r1 W2 H2 S2 x2 hs2 i
    by_cases c : i < ds.length
    · rw [List.drop_eq_getElem_cons c] at h2
      have ed : ItD.at S2 i (.items ds) = some (some ds[i]) := by simp only [ItD.at, List.getElem?_eq_getElem c]
      rw [ed] at hr
      obtain ⟨hgo, hy⟩ := hr
      refine .inr ⟨hgo, fun σ' H' => ∃ W2 en2 S2, i + 1 ≤ ds.length ∧ Ext X.K W1 H1 W2 H' ∧ ERel X.K W2 H' en2 σ' ∧ SRel X.K W2 H' S2 ∧ PostS X.K W2 H' (forL g f (ds.drop (i + 1)) en2 S2) Z Wx, ?_, ?_⟩
      · rintro σ' H' ⟨W3, en3, S3, hl3, q3, q4, q5, q6⟩
        exact ⟨ds.length - (i + 1), by omega, W3, en3, S3, rfl, hl3, q3, q4, q5, q6⟩
      · intro x H3 hx
        obtain ⟨x3, s3, r3⟩ := hy x H3 hx
        refine hg.run W2 H3 σ2 en2 S2 _ x _ (he2.ext x3) s3 r3 ?_
        unfold forL at h2
        cases q : g ds[i] en2 S2 with
        | none => rw [q] at h2; exact h2.elim
        | some p =>
          obtain ⟨e4, S4⟩ := p
          rw [q] at h2
          intro W5 H5 σ5 x5 s5 r5
          refine hb.run W5 H5 σ5 e4 S4 _ r5 s5 ?_
          have h2 := PostS.later h2 (x3.trans x5)
          simp only at h2
          cases q2 : f e4 S4 with
          | nx a b => rw [q2] at h2; exact fun W' H' σ' y s r => ⟨W', a, b, c, ((x2.trans x3).trans x5).trans y, r, s, PostS.later h2 y⟩
          | ct a b => rw [q2] at h2; exact fun W' H' σ' y s r => ⟨W', a, b, c, ((x2.trans x3).trans x5).trans y, r, s, PostS.later h2 y⟩
          | bk a b => rw [q2] at h2; exact h2
          | rt a b => rw [q2] at h2; exact h2
          | ex a b c => rw [q2] at h2; exact h2
          | no => rw [q2] at h2; exact h2
    · have ei : i = ds.length := by omega
      subst ei
      have ed : ItD.at S2 ds.length (.items ds) = some none := by simp only [ItD.at, List.getElem?_eq_none (Nat.le_refl _)]
      rw [ed] at hr
      rw [List.drop_length] at h2
      exact .inl ⟨hr, h2 W2 H2 σ2 Ext.refl hs2 he2⟩
  | live n =>
    refine ⟨fun i k σ2 H2 => ∃ W2 en2 S2, Ext X.K W1 H1 W2 H2 ∧ ERel X.K W2 H2 en2 σ2 ∧ SRel X.K W2 H2 S2 ∧ PostS X.K W2 H2 (forR g f n k i en2 S2) Z Wx, ⟨m, W1, en, S1, Ext.refl, he.ext e1, s1, p1⟩, ?_⟩
    rintro i k σ2 H2 ⟨W2, en2, S2, x2, he2, hs2, h2⟩
    have hr := r1 W2 H2 S2 x2 hs2 i
    cases k with
    | zero => exact h2.elim
    | succ k =>
      unfold forR at h2
      split at h2
      · rename_i ds hn
        cases c : ds[i]? with
        | none =>
          have ed : ItD.at S2 i (.live n) = some none := by simp only [ItD.at, hn, c]
          rw [ed] at hr
          rw [c] at h2
          exact .inl ⟨hr, h2 W2 H2 σ2 Ext.refl hs2 he2⟩
        | some d =>
          have ed : ItD.at S2 i (.live n) = some (some d) := by simp only [ItD.at, hn, c]
          rw [ed] at hr
          rw [c] at h2
          obtain ⟨hgo, hy⟩ := hr
          refine .inr ⟨hgo, fun σ' H' => ∃ W2 en2 S2, Ext X.K W1 H1 W2 H' ∧ ERel X.K W2 H' en2 σ' ∧ SRel X.K W2 H' S2 ∧ PostS X.K W2 H' (forR g f n k (i + 1) en2 S2) Z Wx, fun σ' H' q => ⟨k, Nat.lt_succ_self k, q⟩, ?_⟩
          intro x H3 hx
          obtain ⟨x3, s3, r3⟩ := hy x H3 hx
          refine hg.run W2 H3 σ2 en2 S2 _ x _ (he2.ext x3) s3 r3 ?_
          cases q : g d en2 S2 with
          | none => simp only [q] at h2; exact h2.elim
          | some p =>
            obtain ⟨e4, S4⟩ := p
            simp only [q] at h2
            intro W5 H5 σ5 x5 s5 r5
            refine hb.run W5 H5 σ5 e4 S4 _ r5 s5 ?_
            have h2 := PostS.later h2 (x3.trans x5)
            cases q2 : f e4 S4 with
            | nx a b => rw [q2] at h2; exact fun W' H' σ' y s r => ⟨W', a, b, ((x2.trans x3).trans x5).trans y, r, s, PostS.later h2 y⟩
            | ct a b => rw [q2] at h2; exact fun W' H' σ' y s r => ⟨W', a, b, ((x2.trans x3).trans x5).trans y, r, s, PostS.later h2 y⟩
            | bk a b => rw [q2] at h2; exact h2
            | rt a b => rw [q2] at h2; exact h2
            | ex a b c => rw [q2] at h2; exact h2
            | no => rw [q2] at h2; exact h2
      · exact h2.elim
end stmts
end PF

namespace PF
open PySem L2
/-! ### data read as rows -/
def lsOf (S : So) : D → Option (List D)
  | .lst ds => some ds
  | .ref n => match S[n]? with
    | some (.lst ds) => some ds
    | _ => none
  | _ => none
/-- a list or a tuple -/
def sqOf (S : So) : D → Option (List D)
  | .tup ds => some ds
  | d => lsOf S d
def intOf : D → Option Int
  | .int i => some i
  | _ => none
def intsOf : List D → Option (List Int)
  | [] => some []
  | d :: ds => match intOf d, intsOf ds with
    | some i, some r => some (i :: r)
    | _, _ => none
theorem intsOf_eq : ∀ {ds : List D} {ns : List Int}, intsOf ds = some ns → ds = ns.map D.int
  | [], ns, h => by simp only [intsOf] at h; cases h; rfl
  | d :: ds, ns, h => by
    simp only [intsOf] at h
    split at h
    · rename_i i r h1 h2
      cases h
      cases d <;> simp only [intOf] at h1 <;> cases h1
      rw [intsOf_eq h2, List.map_cons]
    · cases h
theorem intsOf_map : ∀ (ns : List Int), intsOf (ns.map D.int) = some ns
  | [] => rfl
  | n :: ns => by simp only [List.map_cons, intsOf, intOf, intsOf_map ns]
section rows
variable {K : PySem.W.Frag} {W : Wd} {H : Hp} {S : So} {d : D} {v : V} {ds : List D}
theorem lsOf_rel (s : SRel K W H S) (r : DRel K W H d v) (h : lsOf S d = some ds) : ∃ a vs, v = .ref a ∧ H a = some (.lst vs) ∧ DRels K W H ds vs := by
  cases d with
  | lst es =>
    simp only [lsOf] at h; cases h
    unfold DRel at r; obtain ⟨a, vs, rfl, h1, h2⟩ := r
    exact ⟨a, vs, rfl, h1.2, h2⟩
  | ref n =>
    simp only [lsOf] at h
    unfold DRel at r; obtain ⟨a, rfl, h1⟩ := r
    split at h
    · rename_i es hn
      cases h
      obtain ⟨vs, h2, h3⟩ := s.obj n a _ h1 hn
      exact ⟨a, vs, rfl, h2, h3⟩
    · cases h
  | _ => simp only [lsOf] at h; cases h
theorem sqOf_rel (s : SRel K W H S) (r : DRel K W H d v) (h : sqOf S d = some ds) : ∃ a vs, v = .ref a ∧ (SqL K H a vs ∨ SqT K H a vs) ∧ DRels K W H ds vs := by
  cases d with
  | tup es =>
    simp only [sqOf] at h; cases h
    unfold DRel at r; obtain ⟨a, vs, rfl, h1, h2⟩ := r
    exact ⟨a, vs, rfl, .inr h1, h2⟩
  | lst es =>
    obtain ⟨a, vs, e, h1, h2⟩ := lsOf_rel s r (show lsOf S (.lst es) = some ds from h)
    exact ⟨a, vs, e, .inl (.of h1), h2⟩
  | ref n =>
    obtain ⟨a, vs, e, h1, h2⟩ := lsOf_rel s r (show lsOf S (.ref n) = some ds from h)
    exact ⟨a, vs, e, .inl (.of h1), h2⟩
  | _ => simp only [sqOf, lsOf] at h; cases h
end rows
/-! ### operators on data -/
def gI (g : Int → Int → Int) : G2 := fun a b S => match a, b with
  | .int i, .int j => some (.int (g i j), S)
  | _, _ => none
def gIc (c : Int → Int → Bool) (g : Int → Int → Int) : G2 := fun a b S => match a, b with
  | .int i, .int j => if c i j = true then some (.int (g i j), S) else none
  | _, _ => none
def gB (g : Int → Int → Bool) : G2 := fun a b S => match a, b with
  | .int i, .int j => some (.bl (g i j), S)
  | _, _ => none
section opd
variable {K : PySem.W.Frag}
theorem PostO.here {W : Wd} {H : Hp} {d : D} {S : So} {Q : VK} {v : V} (p : PostO K W H (some (d, S)) Q) (s : SRel K W H S) (r : DRel K W H d v) : Q v H := p W H v Ext.refl s r
theorem opd_I {g : Int → Int → Int} : OpD K (rI0 fun i j => .int (g i j)) (gI g) := by
  intro W H S x y a b Q s ra rb p
  cases a <;> cases b <;> first | exact p.elim | skip
  unfold DRel at ra rb
  exact ⟨_, _, ra, rb, p.here s (by unfold DRel; rfl)⟩
theorem opd_Ic {C : Int → Int → Prop} {c : Int → Int → Bool} {g : Int → Int → Int} (h : ∀ i j, c i j = true → C i j) : OpD K (rI C fun i j => .int (g i j)) (gIc c g) := by
  intro W H S x y a b Q s ra rb p
  cases a <;> cases b <;> first | exact p.elim | skip
  unfold DRel at ra rb
  simp only [gIc] at p
  split at p
  · exact ⟨_, _, ra, rb, h _ _ (by assumption), p.here s (by unfold DRel; rfl)⟩
  · exact p.elim
theorem opd_B {g : Int → Int → Bool} : OpD K (rI0 fun i j => .bl (g i j)) (gB g) := by
  intro W H S x y a b Q s ra rb p
  cases a <;> cases b <;> first | exact p.elim | skip
  unfold DRel at ra rb
  exact ⟨_, _, ra, rb, p.here s (by unfold DRel; rfl)⟩
def gMinus : G2 := gI fun i j => i - j
def cMul (i j : Int) : Bool := (decide (-(2 ^ 64) < i) && decide (i < 2 ^ 64)) || (decide (-(2 ^ 64) < j) && decide (j < 2 ^ 64))
def gFdiv : G2 := gIc (fun _ j => decide (0 < j) && decide (j < 1073741824)) fun i j => i / j
def gMod : G2 := gIc (fun _ j => decide (0 < j)) fun i j => i % j
def gPow : G2 := gIc (fun i j => decide (0 ≤ j) && decide (j ≤ 1000000) && decide (i.natAbs < 2 ^ 64)) fun i j => i ^ j.toNat
theorem opd_sub : OpD K (rI0 fun i j => .int (i - j)) gMinus := opd_I
theorem opd_fdiv : OpD K (rI CDiv fun i j => .int (i / j)) gFdiv := opd_Ic fun i j h => by
  simp only [Bool.and_eq_true, decide_eq_true_eq] at h; exact h
theorem opd_mod : OpD K (rI (fun _ j => 0 < j) fun i j => .int (i % j)) gMod := opd_Ic fun i j h => by
  simp only [decide_eq_true_eq] at h; exact h
theorem opd_pow : OpD K (rI CPow fun i j => .int (i ^ j.toNat)) gPow := opd_Ic fun i j h => by
  simp only [Bool.and_eq_true, decide_eq_true_eq] at h; exact ⟨h.1.1, h.1.2, h.2⟩
theorem cMul_ok {i j : Int} (h : cMul i j = true) : CMul i j := by
  simp only [cMul, Bool.or_eq_true, Bool.and_eq_true, decide_eq_true_eq] at h; exact h
/-- x + y -/
def gAdd (mu : Bool) : G2 := fun a b S => match a, b with
  | .int i, .int j => some (.int (i + j), S)
  | .str x, .str y => if x.length + y.length ≤ sizeLine then some (.str (x ++ y), S) else none
  | .tup xs, .tup ys => if xs.length + ys.length ≤ sizeLine then some (.tup (xs ++ ys), S) else none
  | a, b => match lsOf S a, lsOf S b with
    | some xs, some ys => if xs.length + ys.length ≤ sizeLine then some (newL mu (xs ++ ys) S) else none
    | _, _ => none
def rAddS : R2 := fun x y H Q => ∃ i j, x = .str i ∧ y = .str j ∧ i.length + j.length ≤ sizeLine ∧ Q (.str (i ++ j)) H
def rAddA (K : PySem.W.Frag) : R2 := fun x y H Q => rI0 (fun i j => .int (i + j)) x y H Q ∨ rAddS x y H Q ∨ rCatA K x y H Q ∨ rCat x y H Q
theorem op_addA {X : Cx} : OpR X (binaryOp .Add) (rAddA X.K) := op_add.or (op_add_str.or (op_catA.or op_cat))
theorem drel_same {W : Wd} {H : Hp} {a : Addr} {vs : List V} {ds : List D} (h : SqT K H a vs) (r : DRels K W H ds vs) : DRel K W H (.tup ds) (.ref a) := by
  unfold DRel; exact ⟨a, vs, rfl, h, r⟩
theorem cat_new {W : Wd} {H : Hp} {S : So} {x y : V} {a b : D} {xs ys : List D} {Q : VK} (mu : Bool) (s : SRel K W H S) (ra : DRel K W H a x) (rb : DRel K W H b y) (ha : lsOf S a = some xs) (hb : lsOf S b = some ys)
    (p : PostO K W H (if xs.length + ys.length ≤ sizeLine then some (newL mu (xs ++ ys) S) else none) Q) : rCat x y H Q := by
  obtain ⟨p1, vs, e1, h1, r1⟩ := lsOf_rel s ra ha
  obtain ⟨p2, us, e2, h2, r2⟩ := lsOf_rel s rb hb
  split at p
  · rename_i hl
    exact ⟨p1, p2, vs, us, e1, e2, h1, h2, by rw [← r1.length, ← r2.length]; exact hl, fun q hq => new_list mu s (r1.append r2) p hq⟩
  · exact p.elim
theorem opd_add (mu : Bool) : OpD K (rAddA K) (gAdd mu) := by
  intro W H S x y a b Q s ra rb p
  have fin : ∀ (a b : D), DRel K W H a x → DRel K W H b y → PostO K W H (match lsOf S a, lsOf S b with
    | some xs, some ys => if xs.length + ys.length ≤ sizeLine then some (newL mu (xs ++ ys) S) else none
    | _, _ => none) Q → rCat x y H Q := fun a b ra rb p => by
    split at p
    · exact cat_new mu s ra rb (by assumption) (by assumption) p
    · exact p.elim
  unfold gAdd at p
  split at p
  · unfold DRel at ra rb; exact .inl ⟨_, _, ra, rb, p.here s (by unfold DRel; rfl)⟩
  · unfold DRel at ra rb
    split at p
    · exact .inr (.inl ⟨_, _, ra, rb, by assumption, p.here s (by unfold DRel; rfl)⟩)
    · exact p.elim
  · rename_i xs ys
    have ra' := ra; have rb' := rb
    unfold DRel at ra rb
    obtain ⟨p1, vs, e1, h1, r1⟩ := ra
    obtain ⟨p2, us, e2, h2, r2⟩ := rb
    split at p
    · rename_i hl
      refine .inr (.inr (.inl ⟨p1, p2, vs, us, e1, e2, h1, h2, by rw [← r1.length, ← r2.length]; exact hl, ?_⟩))
      refine ⟨fun ex => ?_, fun _ ey => ?_, fun _ _ q hq => new_tup s (r1.append r2) p hq⟩
      · have : xs = [] := by cases xs with
          | nil => rfl
          | cons _ _ => have := r1.length; rw [ex] at this; simp at this
        subst this
        exact p.here s (drel_same h2 r2)
      · have : ys = [] := by cases ys with
          | nil => rfl
          | cons _ _ => have := r2.length; rw [ey] at this; simp at this
        subst this
        rw [List.append_nil] at p
        exact p.here s (drel_same h1 r1)
    · exact p.elim
  · exact .inr (.inr (.inr (fin _ _ ra rb p)))
/-- x * y -/
def gMul (mu : Bool) : G2 := fun a b S => match a, b with
  | .int i, .int j => if cMul i j = true then some (.int (i * j), S) else none
  | a, .int k => match lsOf S a with
    | some xs => if -(2 ^ 63) ≤ k ∧ k < 2 ^ 63 ∧ xs.length * k.toNat ≤ sizeLine then some (newL mu (List.replicate k.toNat xs).flatten S) else none
    | none => none
  | _, _ => none
def rMulA : R2 := fun x y H Q => rI CMul (fun i j => .int (i * j)) x y H Q ∨ rRep x y H Q
theorem op_mulA {X : Cx} : OpR X (binaryOp .Mult) rMulA := op_mul.or op_rep
theorem opd_mul (mu : Bool) : OpD K rMulA (gMul mu) := by
  intro W H S x y a b Q s ra rb p
  unfold gMul at p
  split at p
  · unfold DRel at ra rb
    split at p
    · exact .inl ⟨_, _, ra, rb, cMul_ok (by assumption), p.here s (by unfold DRel; rfl)⟩
    · exact p.elim
  · unfold DRel at rb
    split at p
    · rename_i xs hx
      obtain ⟨p1, vs, e1, h1, r1⟩ := lsOf_rel s ra hx
      split at p
      · rename_i hc
        exact .inr ⟨p1, _, vs, e1, rb, h1, hc.1, hc.2.1, by rw [← r1.length]; exact hc.2.2, fun q hq => new_list mu s (r1.rep _) p hq⟩
      · exact p.elim
    · exact p.elim
  · exact p.elim
/-! comparisons -/
def gLe : G2 := gB fun i j => decide (i ≤ j)
def gGe : G2 := gB fun i j => decide (j ≤ i)
/-- < of ints, texts, tuples of ints -/
def gLt : G2 := fun a b S => match a, b with
  | .int i, .int j => some (.bl (decide (i < j)), S)
  | .str x, .str y => some (.bl (decide (x.cps.toList < y.cps.toList)), S)
  | .tup xs, .tup ys => match intsOf xs, intsOf ys with
    | some ns, some ms => some (.bl (HT.lexLt ns ms), S)
    | _, _ => none
  | _, _ => none
def rLtS : R2 := fun x y H Q => ∃ i j, x = .str i ∧ y = .str j ∧ Q (.bl (decide (i.cps.toList < j.cps.toList))) H
def rLtA (K : PySem.W.Frag) : R2 := fun x y H Q => rI0 (fun i j => .bl (decide (i < j))) x y H Q ∨ rLtS x y H Q ∨ rLtT K x y H Q
theorem op_ltA {X : Cx} (hu : X.A.units < cLine) : OpR X (compareOp .Lt) (rLtA X.K) := op_lt.or (op_lt_str.or (op_ltT hu))
theorem tup_ints {W : Wd} {H : Hp} {x : V} {xs : List D} {ns : List Int} (r : DRel K W H (.tup xs) x) (h : intsOf xs = some ns) : ∃ a, x = .ref a ∧ SqT K H a (ns.map V.int) := by
  unfold DRel at r
  obtain ⟨a, vs, e, h1, h2⟩ := r
  rw [intsOf_eq h] at h2
  rw [DRels.ints_of h2] at h1
  exact ⟨a, e, h1⟩
theorem opd_lt : OpD K (rLtA K) gLt := by
  intro W H S x y a b Q s ra rb p
  unfold gLt at p
  split at p
  · unfold DRel at ra rb; exact .inl ⟨_, _, ra, rb, p.here s (by unfold DRel; rfl)⟩
  · unfold DRel at ra rb; exact .inr (.inl ⟨_, _, ra, rb, p.here s (by unfold DRel; rfl)⟩)
  · split at p
    · rename_i h1 h2
      obtain ⟨p1, e1, t1⟩ := tup_ints ra h1
      obtain ⟨p2, e2, t2⟩ := tup_ints rb h2
      exact .inr (.inr ⟨p1, p2, _, _, e1, e2, t1, t2, p.here s (by unfold DRel; rfl)⟩)
    · exact p.elim
  · exact p.elim
theorem opd_le : OpD K (rI0 fun i j => .bl (decide (i ≤ j))) gLe := opd_B
theorem opd_ge : OpD K (rI0 fun i j => .bl (decide (j ≤ i))) gGe := opd_B
def gGt : G2 := gB fun i j => decide (j < i)
theorem opd_gt : OpD K (rI0 fun i j => .bl (decide (j < i))) gGt := opd_B
/-! is None -/
def isNon : D → Bool
  | .non => true
  | _ => false
theorem isNon_rel {W : Wd} {H : Hp} {d : D} {v : V} (r : DRel K W H d v) : decide (v = .non) = isNon d := by
  cases d with
  | non => unfold DRel at r; subst r; rfl
  | bl b => unfold DRel at r; subst r; rfl
  | int b => unfold DRel at r; subst r; rfl
  | str b => unfold DRel at r; subst r; rfl
  | tup ds => unfold DRel at r; obtain ⟨a, vs, rfl, _⟩ := r; rfl
  | lst ds => unfold DRel at r; obtain ⟨a, vs, rfl, _⟩ := r; rfl
  | ref n => unfold DRel at r; obtain ⟨a, rfl, _⟩ := r; rfl
  | scr n => unfold DRel at r; obtain ⟨a, rfl, _⟩ := r; rfl
def gIs : G2 := fun a b S => match b with
  | .non => some (.bl (isNon a), S)
  | _ => none
def gIsNot : G2 := fun a b S => match b with
  | .non => some (.bl (!isNon a), S)
  | _ => none
theorem opd_is : OpD K (fun x y H Q => y = .non ∧ Q (.bl (decide (x = .non))) H) gIs := by
  intro W H S x y a b Q s ra rb p
  cases b <;> first | exact p.elim | skip
  unfold DRel at rb
  exact ⟨rb, by rw [isNon_rel ra]; exact p.here s (by unfold DRel; rfl)⟩
theorem opd_isnot : OpD K (fun x y H Q => y = .non ∧ Q (.bl (!decide (x = .non))) H) gIsNot := by
  intro W H S x y a b Q s ra rb p
  cases b <;> first | exact p.elim | skip
  unfold DRel at rb
  exact ⟨rb, by rw [isNon_rel ra]; exact p.here s (by unfold DRel; rfl)⟩
/-! == at any depth -/
mutual
def pd0 : D → Option PyData
  | .non => some .none
  | .bl b => some (.bool b)
  | .int i => some (.int i)
  | .str x => some (.str x)
  | .tup ds => match pds ds with
    | some r => some (.tuple r)
    | none => none
  | .lst ds => match pds ds with
    | some r => some (.list r)
    | none => none
  | .ref _ => none
  | .scr _ => none
def pds : List D → Option (List PyData)
  | [] => some []
  | d :: ds => match pd0 d, pds ds with
    | some x, some r => some (x :: r)
    | _, _ => none
end
def pdOf (S : So) : D → Option PyData
  | .ref n => match S[n]? with
    | some (.lst ds) => match pds ds with
      | some r => some (.list r)
      | none => none
    | _ => none
  | d => pd0 d
mutual
theorem pd0_rel {W : Wd} {H : Hp} : ∀ {d : D} {v : V} {x : PyData}, DRel K W H d v → pd0 d = some x → Dp K H v x
  | .non, v, x, r, h => by unfold DRel at r; subst r; simp only [pd0] at h; cases h; exact .non
  | .bl b, v, x, r, h => by unfold DRel at r; subst r; simp only [pd0] at h; cases h; exact .bl b
  | .int b, v, x, r, h => by unfold DRel at r; subst r; simp only [pd0] at h; cases h; exact .int b
  | .str b, v, x, r, h => by unfold DRel at r; subst r; simp only [pd0] at h; cases h; exact .str b
  | .tup ds, v, x, r, h => by
    unfold DRel at r; obtain ⟨a, vs, rfl, h1, h2⟩ := r
    simp only [pd0] at h
    split at h
    · cases h; exact .tup h1 (pds_rel h2 (by assumption))
    · cases h
  | .lst ds, v, x, r, h => by
    unfold DRel at r; obtain ⟨a, vs, rfl, h1, h2⟩ := r
    simp only [pd0] at h
    split at h
    · cases h; exact .lst h1.sq (pds_rel h2 (by assumption))
    · cases h
  | .ref n, v, x, r, h => by simp only [pd0] at h; cases h
  | .scr n, v, x, r, h => by simp only [pd0] at h; cases h
theorem pds_rel {W : Wd} {H : Hp} : ∀ {ds : List D} {vs : List V} {xs : List PyData}, DRels K W H ds vs → pds ds = some xs → DpAll K H vs xs
  | [], vs, xs, r, h => by unfold DRels at r; subst r; simp only [pds] at h; cases h; exact .nil
  | d :: ds, vs, xs, r, h => by
    unfold DRels at r; obtain ⟨v, vr, rfl, h1, h2⟩ := r
    simp only [pds] at h
    split at h
    · cases h; exact .cons (pd0_rel h1 (by assumption)) (pds_rel h2 (by assumption))
    · cases h
end
theorem pdOf_rel {W : Wd} {H : Hp} {S : So} {d : D} {v : V} {x : PyData} (s : SRel K W H S) (r : DRel K W H d v) (h : pdOf S d = some x) : Dp K H v x := by
  unfold pdOf at h
  split at h
  · rename_i n
    unfold DRel at r; obtain ⟨a, rfl, h1⟩ := r
    split at h
    · rename_i es hn
      obtain ⟨vs, h2, h3⟩ := s.obj n a _ h1 hn
      split at h
      · cases h; exact .lst (.of h2) (pds_rel h3 (by assumption))
      · cases h
    · cases h
  · exact pd0_rel r h
def eqD (S : So) (a b : D) : Option Bool := match pdOf S a, pdOf S b with
  | some x, some y => if SeqAt.shaped x = true ∧ SeqAt.shaped y = true then some (PyData.eqv x y) else none
  | _, _ => none
def gEq : G2 := fun a b S => match eqD S a b with
  | some k => some (.bl k, S)
  | none => none
def gNe : G2 := fun a b S => match eqD S a b with
  | some k => some (.bl (!k), S)
  | none => none
theorem eqD_rel {W : Wd} {H : Hp} {S : So} {a b : D} {x y : V} {k : Bool} (s : SRel K W H S) (ra : DRel K W H a x) (rb : DRel K W H b y) (h : eqD S a b = some k) :
    ∃ d e, Dp K H x d ∧ Dp K H y e ∧ SeqAt.shaped d = true ∧ SeqAt.shaped e = true ∧ PyData.eqv d e = k := by
  unfold eqD at h
  split at h
  · rename_i d e h1 h2
    split at h
    · rename_i hc
      cases h
      exact ⟨d, e, pdOf_rel s ra h1, pdOf_rel s rb h2, hc.1, hc.2, rfl⟩
    · cases h
  · cases h
theorem opd_eq : OpD K (rEqD K) gEq := by
  intro W H S x y a b Q s ra rb p
  unfold gEq at p
  split at p
  · rename_i k hk
    obtain ⟨d, e, h1, h2, h3, h4, h5⟩ := eqD_rel s ra rb hk
    exact ⟨d, e, h1, h2, h3, h4, by rw [h5]; exact p.here s (by unfold DRel; rfl)⟩
  · exact p.elim
theorem opd_ne : OpD K (rNeD K) gNe := by
  intro W H S x y a b Q s ra rb p
  unfold gNe at p
  split at p
  · rename_i k hk
    obtain ⟨d, e, h1, h2, h3, h4, h5⟩ := eqD_rel s ra rb hk
    exact ⟨d, e, h1, h2, h3, h4, by rw [h5]; exact p.here s (by unfold DRel; rfl)⟩
  · exact p.elim
end opd
end PF

namespace PF
open PySem L2
/-! ### calls of built-ins -/
abbrev GA := List D → So → Option (D × So)
def CallD (K : PySem.W.Frag) (r : List V → Hp → VK → Prop) (g : GA) : Prop := ∀ (W : Wd) (H : Hp) (S : So) (vs : List V) (ds : List D) (Q : VK), SRel K W H S → DRels K W H ds vs → PostO K W H (g ds S) Q → r vs H Q
def fCB (g : GA) (fa : FA) : FE := fun en S => (fa en S).bind fun ds S1 => ofO (g ds S1)
section calls
variable {X : Cx} {Wx : WX} {x : Str} {p pos : Pos} {e : Expr} {es : List Expr} {fa : FA} {id T : String} {r : List V → Hp → VK → Prop} {g : GA}
theorem pf_callB (hc : CallR X (.builtin id) r) (hd : CallD X.K r g) (hg : Gl X x) (hm : X.mg x = none) (ha : PFA X Wx (e :: es) fa) (hv : bootBuiltins x = some (.builtin id) := by decide +kernel) (hn : x ≠ "__name__" := by decide)
    (hdb : (x == ("__debug__" : Str)) = false := by decide) (he : starEach (e :: es) X.env = (false, eval e X.env) :: starEach es X.env := by rfl) (hpl : (backTo pos (starEach es X.env)).any (·.1) = false := by rfl) :
    PFE X Wx (.Call (.Name x p) (e :: es) [] pos) (fCB g fa) :=
  ⟨fun W H σ en S Q he' hs hp => PE_w (pe_callB hc hg hm hv pa_w (hn := hn) (hdb := hdb) (he := he) (hpl := hpl)) (ha.run W H σ en S _ he' hs (Post.bind hp fun ds S1 W1 H1 vs e1 s1 r1 p1 => hd W1 H1 S1 vs ds Q s1 r1 (postO p1)))⟩
theorem pf_callTy (hc : CallR X (.type T) r) (hd : CallD X.K r g) (hg : Gl X x) (hm : X.mg x = none) (ha : PFA X Wx (e :: es) fa) (hv : bootBuiltins x = some (.type T) := by decide +kernel) (hn : x ≠ "__name__" := by decide)
    (hdb : (x == ("__debug__" : Str)) = false := by decide) (he : starEach (e :: es) X.env = (false, eval e X.env) :: starEach es X.env := by rfl) (hpl : (backTo pos (starEach es X.env)).any (·.1) = false := by rfl) :
    PFE X Wx (.Call (.Name x p) (e :: es) [] pos) (fCB g fa) :=
  ⟨fun W H σ en S Q he' hs hp => PE_w (pe_callTy hc hg hm hv pa_w (hn := hn) (hdb := hdb) (he := he) (hpl := hpl)) (ha.run W H σ en S _ he' hs (Post.bind hp fun ds S1 W1 H1 vs e1 s1 r1 p1 => hd W1 H1 S1 vs ds Q s1 r1 (postO p1)))⟩
end calls
section one
variable {K : PySem.W.Frag}
theorem drels1 {W : Wd} {H : Hp} {d : D} {vs : List V} (h : DRels K W H [d] vs) : ∃ v, vs = [v] ∧ DRel K W H d v := by
  unfold DRels at h
  obtain ⟨v, r, rfl, h1, h2⟩ := h
  unfold DRels at h2
  subst h2
  exact ⟨v, rfl, h1⟩
theorem drels2 {W : Wd} {H : Hp} {d e : D} {vs : List V} (h : DRels K W H [d, e] vs) : ∃ v u, vs = [v, u] ∧ DRel K W H d v ∧ DRel K W H e u := by
  unfold DRels at h
  obtain ⟨v, r, rfl, h1, h2⟩ := h
  obtain ⟨u, rfl, h3⟩ := drels1 h2
  exact ⟨v, u, rfl, h1, h3⟩
theorem dint {W : Wd} {H : Hp} {i : Int} : DRel K W H (.int i) (.int i) := by unfold DRel; rfl
theorem dbl {W : Wd} {H : Hp} {i : Bool} : DRel K W H (.bl i) (.bl i) := by unfold DRel; rfl
theorem dstr {W : Wd} {H : Hp} {i : Str} : DRel K W H (.str i) (.str i) := by unfold DRel; rfl
theorem dnon {W : Wd} {H : Hp} : DRel K W H .non .non := by unfold DRel; rfl
/-- len -/
def gLen : GA := fun ds S => match ds with
  | [.str z] => if z.length ≤ sizeLine then some (.int z.length, S) else none
  | [.ref n] => match S[n]? with
    | some (.lst xs) => some (.int xs.length, S)
    | some (.dic kvs) => some (.int kvs.length, S)
    | _ => none
  | [.tup xs] => some (.int xs.length, S)
  | [.lst xs] => some (.int xs.length, S)
  | _ => none
theorem krel_len {W : Wd} {H : Hp} : ∀ {ds : List (Key × D)} {vs : List (Key × V)}, KRel K W H ds vs → ds.length = vs.length
  | [], vs, h => by unfold KRel at h; subst h; rfl
  | (k, d) :: ds, vs, h => by unfold KRel at h; obtain ⟨v, r, rfl, _, h3⟩ := h; simp [krel_len h3]
def rLenA (K : PySem.W.Frag) : List V → Hp → VK → Prop := fun xs H Q => (∃ p ys, xs = [.ref p] ∧ (SqL K H p ys ∨ SqT K H p ys) ∧ Q (.int ys.length) H) ∨ (∃ z, xs = [.str z] ∧ z.length ≤ sizeLine ∧ Q (.int z.length) H) ∨ (∃ a kvs, xs = [V.ref a] ∧ H a = some (.dK kvs) ∧ Q (.int kvs.length) H)
theorem call_lenA {X : Cx} : CallR X (.builtin "len") (rLenA X.K) := call_len_seq.or (call_len_str.or call_lenD)
theorem cd_len : CallD K (rLenA K) gLen := by
  intro W H S vs ds Q s r p
  unfold gLen at p
  split at p
  · obtain ⟨v, rfl, h1⟩ := drels1 r
    unfold DRel at h1; subst h1
    split at p
    · exact .inr (.inl ⟨_, rfl, by assumption, p.here s dint⟩)
    · exact p.elim
  · obtain ⟨v, rfl, h1⟩ := drels1 r
    unfold DRel at h1; obtain ⟨a, rfl, h1⟩ := h1
    split at p
    · rename_i hn
      obtain ⟨us, h2, h3⟩ := s.obj _ a _ h1 hn
      exact .inl ⟨a, us, rfl, .inl (.of h2), by rw [← h3.length]; exact p.here s dint⟩
    · rename_i hn
      obtain ⟨us, h2, h3⟩ := s.obj _ a _ h1 hn
      exact .inr (.inr ⟨a, us, rfl, h2, by rw [← krel_len h3]; exact p.here s dint⟩)
    · exact p.elim
  · obtain ⟨v, rfl, h1⟩ := drels1 r
    unfold DRel at h1; obtain ⟨a, us, rfl, h1, h2⟩ := h1
    exact .inl ⟨a, us, rfl, .inr h1, by rw [← h2.length]; exact p.here s dint⟩
  · obtain ⟨v, rfl, h1⟩ := drels1 r
    unfold DRel at h1; obtain ⟨a, us, rfl, h1, h2⟩ := h1
    exact .inl ⟨a, us, rfl, .inl h1.sq, by rw [← h2.length]; exact p.here s dint⟩
  · exact p.elim
/-- abs, int -/
def gAbs : GA := fun ds S => match ds with
  | [.int i] => some (.int (if i < 0 then -i else i), S)
  | _ => none
theorem cd_abs : CallD K (fun xs H Q => ∃ i, xs = [.int i] ∧ Q (.int (if i < 0 then -i else i)) H) gAbs := by
  intro W H S vs ds Q s r p
  unfold gAbs at p
  split at p
  · obtain ⟨v, rfl, h1⟩ := drels1 r
    unfold DRel at h1; subst h1
    exact ⟨_, rfl, p.here s dint⟩
  · exact p.elim
def gInt : GA := fun ds S => match ds with
  | [.int i] => some (.int i, S)
  | [.bl k] => some (.int (if k then 1 else 0), S)
  | _ => none
theorem cd_int : CallD K (fun xs H Q => (∃ i, xs = [.int i] ∧ Q (.int i) H) ∨ ∃ k, xs = [.bl k] ∧ Q (.int (if k then 1 else 0)) H) gInt := by
  intro W H S vs ds Q s r p
  unfold gInt at p
  split at p
  · obtain ⟨v, rfl, h1⟩ := drels1 r
    unfold DRel at h1; subst h1
    exact .inl ⟨_, rfl, p.here s dint⟩
  · obtain ⟨v, rfl, h1⟩ := drels1 r
    unfold DRel at h1; subst h1
    exact .inr ⟨_, rfl, p.here s dint⟩
  · exact p.elim
/-- str(int) -/
def gStr : GA := fun ds S => match ds with
  | [.int i] => if i.natAbs.log2 < 1920 then some (.str (toString i), S) else none
  | _ => none
theorem cd_str : CallD K (fun xs H Q => ∃ i, xs = [.int i] ∧ i.natAbs.log2 < 1920 ∧ Q (.str (toString i)) H) gStr := by
  intro W H S vs ds Q s r p
  unfold gStr at p
  split at p
  · obtain ⟨v, rfl, h1⟩ := drels1 r
    unfold DRel at h1; subst h1
    split at p
    · exact ⟨_, rfl, by assumption, p.here s dstr⟩
    · exact p.elim
  · exact p.elim
/-- the least, the greatest one -/
def least1 : List Int → Int → Int
  | [], m => m
  | x :: xs, m => least1 xs (if x < m then x else m)
def most1 : List Int → Int → Int
  | [], m => m
  | x :: xs, m => most1 xs (if x > m then x else m)
def leastI : List Int → Int
  | [] => 0
  | x :: xs => least1 xs x
def mostI : List Int → Int
  | [] => 0
  | x :: xs => most1 xs x
theorem least1_spec : ∀ (xs : List Int) (m : Int), (least1 xs m = m ∨ least1 xs m ∈ xs) ∧ least1 xs m ≤ m ∧ ∀ y ∈ xs, least1 xs m ≤ y
  | [], m => ⟨.inl rfl, Int.le_refl _, by simp⟩
  | x :: xs, m => by
    obtain ⟨h1, h2, h3⟩ := least1_spec xs (if x < m then x else m)
    unfold least1
    refine ⟨?_, ?_, ?_⟩
    · rcases h1 with h1 | h1
      · split at h1
        · right; rw [if_pos (by assumption), h1]; simp
        · left; rw [if_neg (by assumption), h1]
      · right; exact List.mem_cons_of_mem _ h1
    · split at h2 <;> split <;> omega
    · intro y hy
      rcases List.mem_cons.mp hy with rfl | hy
      · split at h2 <;> split <;> omega
      · exact h3 y hy
theorem most1_spec : ∀ (xs : List Int) (m : Int), (most1 xs m = m ∨ most1 xs m ∈ xs) ∧ m ≤ most1 xs m ∧ ∀ y ∈ xs, y ≤ most1 xs m
  | [], m => ⟨.inl rfl, Int.le_refl _, by simp⟩
  | x :: xs, m => by
    obtain ⟨h1, h2, h3⟩ := most1_spec xs (if x > m then x else m)
    unfold most1
    refine ⟨?_, ?_, ?_⟩
    · rcases h1 with h1 | h1
      · split at h1
        · right; rw [if_pos (by assumption), h1]; simp
        · left; rw [if_neg (by assumption), h1]
      · right; exact List.mem_cons_of_mem _ h1
    · split at h2 <;> split <;> omega
    · intro y hy
      rcases List.mem_cons.mp hy with rfl | hy
      · split at h2 <;> split <;> omega
      · exact h3 y hy
theorem leastI_spec {xs : List Int} (h : xs ≠ []) : leastI xs ∈ xs ∧ ∀ y ∈ xs, leastI xs ≤ y := by
  cases xs with
  | nil => exact absurd rfl h
  | cons x xs =>
    obtain ⟨h1, h2, h3⟩ := least1_spec xs x
    refine ⟨?_, ?_⟩
    · show least1 xs x ∈ _
      rcases h1 with h1 | h1
      · rw [h1]; simp
      · exact List.mem_cons_of_mem _ h1
    · intro y hy
      rcases List.mem_cons.mp hy with rfl | hy
      · exact h2
      · exact h3 y hy
theorem mostI_spec {xs : List Int} (h : xs ≠ []) : mostI xs ∈ xs ∧ ∀ y ∈ xs, y ≤ mostI xs := by
  cases xs with
  | nil => exact absurd rfl h
  | cons x xs =>
    obtain ⟨h1, h2, h3⟩ := most1_spec xs x
    refine ⟨?_, ?_⟩
    · show most1 xs x ∈ _
      rcases h1 with h1 | h1
      · rw [h1]; simp
      · exact List.mem_cons_of_mem _ h1
    · intro y hy
      rcases List.mem_cons.mp hy with rfl | hy
      · exact h2
      · exact h3 y hy
def gMin : GA := fun ds S => match ds with
  | [.int i, .int j] => some (.int (if j < i then j else i), S)
  | [d] => match lsOf S d with
    | some xs => match intsOf xs with
      | some ns => if ns = [] then none else some (.int (leastI ns), S)
      | none => none
    | none => none
  | _ => none
def gMax : GA := fun ds S => match ds with
  | [.int i, .int j] => some (.int (if j > i then j else i), S)
  | [d] => match lsOf S d with
    | some xs => match intsOf xs with
      | some ns => if ns = [] then none else some (.int (mostI ns), S)
      | none => none
    | none => none
  | _ => none
def rMinA (K : PySem.W.Frag) : List V → Hp → VK → Prop := fun xs H Q => (∃ i j, xs = [.int i, .int j] ∧ Q (.int (if j < i then j else i)) H) ∨ rMin K xs H Q
def rMaxA (K : PySem.W.Frag) : List V → Hp → VK → Prop := fun xs H Q => (∃ i j, xs = [.int i, .int j] ∧ Q (.int (if j > i then j else i)) H) ∨ rMax K xs H Q
theorem call_minA {X : Cx} (hc : X.calm = true) : CallR X (.builtin "min") (rMinA X.K) := (call_min2 hc).or (cr_min hc)
theorem call_maxA {X : Cx} (hc : X.calm = true) : CallR X (.builtin "max") (rMaxA X.K) := (call_max2 hc).or (cr_max hc)
theorem ls_ints {W : Wd} {H : Hp} {S : So} {d : D} {v : V} {xs : List D} {ns : List Int} (s : SRel K W H S) (r : DRel K W H d v) (h : lsOf S d = some xs) (h2 : intsOf xs = some ns) : ∃ a, v = .ref a ∧ H a = some (.lst (ns.map V.int)) := by
  obtain ⟨a, vs, e, h1, h3⟩ := lsOf_rel s r h
  rw [intsOf_eq h2] at h3
  rw [DRels.ints_of h3] at h1
  exact ⟨a, e, h1⟩
theorem cd_min : CallD K (rMinA K) gMin := by
  intro W H S vs ds Q s r p
  unfold gMin at p
  split at p
  · obtain ⟨v, u, rfl, h1, h2⟩ := drels2 r
    unfold DRel at h1 h2; subst h1; subst h2
    exact .inl ⟨_, _, rfl, p.here s dint⟩
  · obtain ⟨v, rfl, h1⟩ := drels1 r
    split at p
    · split at p
      · rename_i ns h3
        obtain ⟨a, rfl, h4⟩ := ls_ints s h1 (by assumption) h3
        split at p
        · exact p.elim
        · rename_i hne
          refine .inr ⟨a, ns, rfl, .of h4, by cases ns with
            | nil => exact absurd rfl hne
            | cons _ _ => simp, fun m hm hle => ?_⟩
          have sp := leastI_spec hne
          have : m = leastI ns := Int.le_antisymm (hle _ sp.1) (sp.2 m hm)
          rw [this]
          exact p.here s dint
      · exact p.elim
    · exact p.elim
  · exact p.elim
theorem cd_max : CallD K (rMaxA K) gMax := by
  intro W H S vs ds Q s r p
  unfold gMax at p
  split at p
  · obtain ⟨v, u, rfl, h1, h2⟩ := drels2 r
    unfold DRel at h1 h2; subst h1; subst h2
    exact .inl ⟨_, _, rfl, p.here s dint⟩
  · obtain ⟨v, rfl, h1⟩ := drels1 r
    split at p
    · split at p
      · rename_i ns h3
        obtain ⟨a, rfl, h4⟩ := ls_ints s h1 (by assumption) h3
        split at p
        · exact p.elim
        · rename_i hne
          refine .inr ⟨a, ns, rfl, .of h4, by cases ns with
            | nil => exact absurd rfl hne
            | cons _ _ => simp, fun m hm hle => ?_⟩
          have sp := mostI_spec hne
          have : m = mostI ns := Int.le_antisymm (sp.2 m hm) (hle _ sp.1)
          rw [this]
          exact p.here s dint
      · exact p.elim
    · exact p.elim
  · exact p.elim
/-- sum -/
def gSum : GA := fun ds S => match ds with
  | [d] => match lsOf S d with
    | some xs => match intsOf xs with
      | some ns => some (.int ns.sum, S)
      | none => none
    | none => none
  | _ => none
theorem cd_sum : CallD K (rSum K) gSum := by
  intro W H S vs ds Q s r p
  unfold gSum at p
  split at p
  · obtain ⟨v, rfl, h1⟩ := drels1 r
    split at p
    · split at p
      · rename_i ns h3
        obtain ⟨a, rfl, h4⟩ := ls_ints s h1 (by assumption) h3
        exact ⟨a, ns, rfl, .of h4, p.here s dint⟩
      · exact p.elim
    · exact p.elim
  · exact p.elim
/-- sorted: of ints -/
def isort : List Int → List Int
  | [] => []
  | x :: xs => ins x (isort xs)
where ins (x : Int) : List Int → List Int
  | [] => [x]
  | y :: ys => if x ≤ y then x :: y :: ys else y :: ins x ys
theorem ins_perm (x : Int) : ∀ ys : List Int, (isort.ins x ys).Perm (x :: ys)
  | [] => .refl _
  | y :: ys => by
    unfold isort.ins
    split
    · exact .refl _
    · exact ((ins_perm x ys).cons y).trans (.swap x y ys)
theorem isort_perm : ∀ xs : List Int, (isort xs).Perm xs
  | [] => .refl _
  | x :: xs => (ins_perm x _).trans ((isort_perm xs).cons x)
theorem ins_sorted (x : Int) : ∀ {ys : List Int}, ys.Pairwise (· ≤ ·) → (isort.ins x ys).Pairwise (· ≤ ·)
  | [], _ => by unfold isort.ins; simp
  | y :: ys, h => by
    unfold isort.ins
    obtain ⟨h1, h2⟩ := List.pairwise_cons.mp h
    split
    · refine List.pairwise_cons.mpr ⟨fun z hz => ?_, h⟩
      rcases List.mem_cons.mp hz with rfl | hz
      · assumption
      · exact Int.le_trans (by assumption) (h1 z hz)
    · refine List.pairwise_cons.mpr ⟨fun z hz => ?_, ins_sorted x h2⟩
      rcases List.mem_cons.mp ((ins_perm x ys).mem_iff.mp hz) with rfl | hz
      · omega
      · exact h1 z hz
theorem isort_sorted : ∀ xs : List Int, (isort xs).Pairwise (· ≤ ·)
  | [] => .nil
  | x :: xs => ins_sorted x (isort_sorted xs)
theorem sorted_unique : ∀ {xs ys : List Int}, xs.Perm ys → xs.Pairwise (· ≤ ·) → ys.Pairwise (· ≤ ·) → xs = ys
  | [], ys, p, _, _ => p.symm.eq_nil.symm
  | x :: xs, [], p, _, _ => p.eq_nil
  | x :: xs, y :: ys, p, hx, hy => by
    obtain ⟨hx1, hx2⟩ := List.pairwise_cons.mp hx
    obtain ⟨hy1, hy2⟩ := List.pairwise_cons.mp hy
    have e : x = y := by
      have h1 : x ∈ y :: ys := p.mem_iff.mp List.mem_cons_self
      have h2 : y ∈ x :: xs := p.mem_iff.mpr List.mem_cons_self
      rcases List.mem_cons.mp h1 with h | h
      · exact h
      · rcases List.mem_cons.mp h2 with h' | h'
        · exact h'.symm
        · exact Int.le_antisymm (hx1 y h') (hy1 x h)
    subst e
    rw [sorted_unique (List.perm_cons x |>.mp p) hx2 hy2]
def gSorted (mu : Bool) : GA := fun ds S => match ds with
  | [d] => match lsOf S d with
    | some xs => match intsOf xs with
      | some ns => some (newL mu ((isort ns).map D.int) S)
      | none => none
    | none => none
  | _ => none
theorem cd_sorted (mu : Bool) : CallD K (rSortedI K) (gSorted mu) := by
  intro W H S vs ds Q s r p
  unfold gSorted at p
  split at p
  · obtain ⟨v, rfl, h1⟩ := drels1 r
    split at p
    · split at p
      · rename_i ns h3
        obtain ⟨a, rfl, h4⟩ := ls_ints s h1 (by assumption) h3
        refine ⟨a, ns, rfl, .of h4, fun ns' q hp' hs' hq => ?_⟩
        have : ns' = isort ns := sorted_unique (hp'.trans (isort_perm ns).symm) hs' (isort_sorted ns)
        subst this
        exact new_list mu s (DRels.ints _) p hq
      · exact p.elim
    · exact p.elim
  · exact p.elim
/-- list(x), tuple(x) -/
def gList (mu : Bool) : GA := fun ds S => match ds with
  | [d] => match sqOf S d with
    | some xs => some (newL mu xs S)
    | none => none
  | _ => none
theorem cd_list (mu : Bool) : CallD K (fun xs H Q => ∃ p ys, xs = [.ref p] ∧ (SqL K H p ys ∨ SqT K H p ys) ∧ ∀ l, H l = none → Q (.ref l) (upd H l (.lst ys))) (gList mu) := by
  intro W H S vs ds Q s r p
  unfold gList at p
  split at p
  · obtain ⟨v, rfl, h1⟩ := drels1 r
    split at p
    · obtain ⟨a, us, rfl, h2, h3⟩ := sqOf_rel s h1 (by assumption)
      exact ⟨a, us, rfl, h2, fun q hq => new_list mu s h3 p hq⟩
    · exact p.elim
  · exact p.elim
def gTuple : GA := fun ds S => match ds with
  | [d] => match sqOf S d with
    | some xs => some (.tup xs, S)
    | none => none
  | _ => none
theorem cd_tuple : CallD K (fun xs H Q => ∃ p ys, xs = [.ref p] ∧ ((SqL K H p ys ∧ ∀ l, H l = none → Q (.ref l) (upd H l (.tup ys))) ∨ (SqT K H p ys ∧ Q (.ref p) H))) gTuple := by
  intro W H S vs ds Q s r p
  unfold gTuple at p
  split at p
  · obtain ⟨v, rfl, h1⟩ := drels1 r
    split at p
    · obtain ⟨a, us, rfl, h2, h3⟩ := sqOf_rel s h1 (by assumption)
      refine ⟨a, us, rfl, ?_⟩
      rcases h2 with h2 | h2
      · exact .inl ⟨h2, fun q hq => new_tup s h3 p hq⟩
      · exact .inr ⟨h2, p.here s (drel_same h2 h3)⟩
    · exact p.elim
  · exact p.elim
end one
/-! ### isinstance of a built-in class -/
def tyN (S : So) : D → Option String
  | .non => some "NoneType"
  | .bl _ => some "bool"
  | .int _ => some "int"
  | .str _ => some "str"
  | .tup _ => some "tuple"
  | .lst _ => some "list"
  | .ref n => match S[n]? with
    | some (.lst _) => some "list"
    | some (.dic _) => some "dict"
    | _ => none
  | .scr _ => none
def fIsi (T : String) (f : FE) : FE := fun en S => (f en S).bind fun d S1 => match tyN S1 d with
  | some t => match kitB t T with
    | some b => .ok (.bl b) S1
    | none => .no
  | none => .no
theorem tyN_rel {K : PySem.W.Frag} {W : Wd} {H : Hp} {S : So} {d : D} {v : V} {t : String} (s : SRel K W H S) (r : DRel K W H d v) (h : tyN S d = some t) : TyX K H v (.type t) := by
  cases d with
  | non => unfold DRel at r; subst r; simp only [tyN] at h; cases h; exact .base .non
  | bl b => unfold DRel at r; subst r; simp only [tyN] at h; cases h; exact .base (.bl b)
  | int b => unfold DRel at r; subst r; simp only [tyN] at h; cases h; exact .base (.int b)
  | str b => unfold DRel at r; subst r; simp only [tyN] at h; cases h; exact .base (.str b)
  | tup ds =>
    unfold DRel at r; obtain ⟨a, vs, rfl, h1, _⟩ := r
    simp only [tyN] at h; cases h
    rcases h1 with (h1 | ⟨o, h1⟩) | ⟨o, its, n, h1, h2, _⟩
    · exact .base (.tup h1)
    · exact .fTuple h1
    · exact .kTuple h1 h2
  | lst ds =>
    unfold DRel at r; obtain ⟨a, vs, rfl, h1, _⟩ := r
    simp only [tyN] at h; cases h
    exact .base (.lst h1.2)
  | ref n =>
    unfold DRel at r; obtain ⟨a, rfl, h1⟩ := r
    simp only [tyN] at h
    split at h
    · rename_i hn
      cases h
      obtain ⟨vs, h2, _⟩ := s.obj n a _ h1 hn
      exact .base (.lst h2)
    · rename_i hn
      cases h
      obtain ⟨vs, h2, _⟩ := s.obj n a _ h1 hn
      exact .base (.dK h2)
    · cases h
  | scr n => simp only [tyN] at h; cases h
theorem pf_isi {X : Cx} {Wx : WX} {a : Expr} {fa : FE} {T : Str} {t : String} {p q pos : Pos} (ha : PFE X Wx a fa) (hg : Gl X "isinstance") (hm : X.mg "isinstance" = none) (hgT : Gl X T) (hmT : X.mg T = none) (hvT : bootBuiltins T = some (.type t) := by decide +kernel)
    (hn : T ≠ "__name__" := by decide) (hd : (T == ("__debug__" : Str)) = false := by decide)
    (he : starEach [a, .Name T q] X.env = (false, eval a X.env) :: starEach [.Name T q] X.env := by rfl) (he2 : starEach [.Name T q] X.env = (false, eval (.Name T q) X.env) :: starEach [] X.env := by rfl)
    (hpl : (backTo pos (starEach [.Name T q] X.env)).any (·.1) = false := by rfl) : PFE X Wx (.Call (.Name "isinstance" p) [a, .Name T q] [] pos) (fIsi t fa) := by
  refine ⟨fun W H σ en S Q he' hs hp => PE_w (pe_callB call_isi hg hm (by decide +kernel) (pa_cons pe_w (pa_cons (pe_bltn (v := .ty t) hgT hmT hvT rfl hn hd) pa_nil he2) he) (he := he) (hpl := hpl)) ?_⟩
  refine ha.run W H σ en S _ he' hs (Post.bind hp fun d S1 W1 H1 v e1 s1 r1 p1 => ?_)
  split at p1
  · split at p1
    · rename_i b hb
      exact ⟨v, .ty t, _, _, b, rfl, .ty t, tyN_rel s1 r1 (by assumption), kit_ty hb, p1.here s1 dbl⟩
    · exact p1.elim
  · exact p1.elim
/-! ### -x -/
def fNeg (f : FE) : FE := fun en S => (f en S).bind fun d S1 => match d with
  | .int i => .ok (.int (-i)) S1
  | _ => .no
theorem pf_neg {X : Cx} {Wx : WX} {a : Expr} {fa : FE} {pos : Pos} (ha : PFE X Wx a fa) : PFE X Wx (.UnaryOp .USub a pos) (fNeg fa) := by
  refine ⟨fun W H σ en S Q he hs hp => PE_w (pe_un un_neg pe_w) (ha.run W H σ en S _ he hs (Post.bind hp fun d S1 W1 H1 v e1 s1 r1 p1 => ?_))⟩
  cases d with
  | int i => unfold DRel at r1; exact ⟨i, r1, p1.here s1 dint⟩
  | _ => exact p1.elim
end PF

namespace PF
open PySem L2
/-! ### subscripts -/
def gIx : G2 := fun a b S => match a, b with
  | .str z, .int i => if z.length ≤ sizeLine then (match atI z.cps.toList i with
    | some c => some (.str ⟨#[c]⟩, S)
    | none => none) else none
  | a, .int i => match sqOf S a with
    | some xs => match atI xs i with
      | some d => some (d, S)
      | none => none
    | none => none
  | _, _ => none
section ix
variable {K : PySem.W.Frag}
theorem DRels.atI {W : Wd} {H : Hp} {ds : List D} {vs : List V} {i : Int} {d : D} (r : DRels K W H ds vs) (h : atI ds i = some d) : ∃ v, L2.atI vs i = some v ∧ DRel K W H d v := by
  unfold L2.atI at h ⊢
  rw [r.length] at h
  cases e : ixN vs.length i with
  | none => rw [e] at h; cases h
  | some j =>
    rw [e] at h
    obtain ⟨v, h1, h2⟩ := r.get (i := j) (d := d) h
    exact ⟨v, h1, h2⟩
theorem opd_ix : OpD K (rIx K) gIx := by
  intro W H S x y a b Q s ra rb p
  unfold gIx at p
  split at p
  · unfold DRel at ra rb
    split at p
    · split at p
      · exact .inr (.inr ⟨_, _, _, ra, rb, by assumption, by assumption, p.here s dstr⟩)
      · exact p.elim
    · exact p.elim
  · unfold DRel at rb
    split at p
    · split at p
      · obtain ⟨q, vs, e, h1, h2⟩ := sqOf_rel s ra (by assumption)
        obtain ⟨v, h3, h4⟩ := h2.atI (by assumption)
        rcases h1 with h1 | h1
        · exact .inl ⟨q, vs, _, v, e, rb, h1, h3, p.here s h4⟩
        · exact .inr (.inl ⟨q, vs, _, v, e, rb, h1, h3, p.here s h4⟩)
      · exact p.elim
    · exact p.elim
  · exact p.elim
theorem pf_ix {X : Cx} {Wx : WX} {a b : Expr} {fa fb : FE} {pos : Pos} (ha : PFE X Wx a fa) (hb : PFE X Wx b fb) (hs : PlainIx b := by intro _ _; rfl) : PFE X Wx (.Subscript a b pos) (fOp gIx fa fb) :=
  ⟨fun W H σ en S Q he hs' hp => PE_w (pe_ix ix_seq pe_w pe_w hs) (bind2 ha hb he hs' hp fun W2 H2 S2 x y d1 d2 _ s2 r1 r2 p => opd_ix W2 H2 S2 x y d1 d2 Q s2 r1 r2 p)⟩
/-! slices -/
abbrev FO := En → So → Rs (Option Int)
def EqO : PySem.W.Frag → Wd → Hp → Option Int → Option Int → Prop := fun _ _ _ a b => b = a
structure PFO (X : Cx) (Wx : WX) (e : Option Expr) (f : FO) : Prop where
  run : ∀ (W : Wd) (H : Hp) (σ : St) (en : En) (S : So) (Q : Option Int → Hp → Prop), ERel X.K W H en σ → SRel X.K W H S → Post X.K EqO W H (f en S) Q (Wish Wx σ) → wO X e σ H Q
def fNoPart : FO := fun _ S => .ok none S
def fPart (f : FE) : FO := fun en S => (f en S).bind fun d S1 => match d with
  | .int i => .ok (some i) S1
  | _ => .no
theorem pfo_none {X : Cx} {Wx : WX} : PFO X Wx none fNoPart := ⟨fun W H σ en S Q he hs hp => PO_w po_none (Post.here hp hs rfl)⟩
theorem pfo_some {X : Cx} {Wx : WX} {e : Expr} {f : FE} (h : PFE X Wx e f) : PFO X Wx (some e) (fPart f) := by
  refine ⟨fun W H σ en S Q he hs hp => PO_w (po_some pe_w) (h.run W H σ en S _ he hs (Post.bind hp fun d S1 W1 H1 v e1 s1 r1 p1 => ?_))⟩
  cases d with
  | int i => unfold DRel at r1; exact ⟨i, r1, p1.here s1 rfl⟩
  | _ => exact p1.elim
def cutD (xs : List D) (lo hi : Option Int) : List D := (xs.drop (HT.sIx xs.length 0 lo)).take (HT.sIx xs.length xs.length hi - HT.sIx xs.length 0 lo)
theorem cut_rel {W : Wd} {H : Hp} {ds : List D} {vs : List V} (lo hi : Option Int) (r : DRels K W H ds vs) : DRels K W H (cutD ds lo hi) (cutV vs lo hi) := by
  unfold cutD cutV
  rw [r.length]
  exact (r.drop _).take _
def gSl (mu : Bool) (a : D) (lo hi : Option Int) (S : So) : Option (D × So) := match a with
  | .str z => if z.length ≤ sizeLine then some (.str (cutS z lo hi), S) else none
  | .tup xs => some (.tup (cutD xs lo hi), S)
  | .scr ns => some (newL mu (cutD (ns.map D.int) lo hi) S)
  | a => match lsOf S a with
    | some xs => some (newL mu (cutD xs lo hi) S)
    | none => none
def rSlAll (K : PySem.W.Frag) : V → Option Int → Option Int → Hp → VK → Prop := fun x lo hi H Q => rSlL K x lo hi H Q ∨ rSlA K x lo hi H Q ∨ rSlS x lo hi H Q
theorem sl_all {X : Cx} : SlR X (rSlAll X.K) := sl_list.or (sl_tupA.or sl_str)
theorem sld {W : Wd} {H : Hp} {S : So} {x : V} {a : D} {lo hi : Option Int} {Q : VK} (mu : Bool) (s : SRel K W H S) (ra : DRel K W H a x) (p : PostO K W H (gSl mu a lo hi S) Q) : rSlAll K x lo hi H Q := by
  unfold gSl at p
  split at p
  · unfold DRel at ra
    split at p
    · exact .inr (.inr ⟨_, ra, by assumption, p.here s dstr⟩)
    · exact p.elim
  · rename_i xs
    unfold DRel at ra; obtain ⟨q, vs, e, h1, h2⟩ := ra
    refine .inr (.inl ⟨q, vs, e, h1, fun c => ?_, fun _ u hu => new_tup s (cut_rel lo hi h2) p hu⟩)
    refine p.here s ?_
    have : cutD xs lo hi = xs := by
      unfold cutD
      rw [h2.length, c.1, c.2]
      simp [← h2.length]
    rw [this]
    exact drel_same h1 h2
  · rename_i ns
    unfold DRel at ra; obtain ⟨q, e, h1⟩ := ra
    have hq : SqL K H q (ns.map V.int) := by
      rcases h1 with ⟨o, h1⟩ | h1
      · exact .inl (.inr ⟨o, h1⟩)
      · exact .inr h1
    exact .inl ⟨q, _, e, hq, fun u hu => new_list mu s (cut_rel lo hi (DRels.ints ns)) p hu⟩
  · split at p
    · obtain ⟨q, vs, e, h1, h2⟩ := lsOf_rel s ra (by assumption)
      exact .inl ⟨q, vs, e, .of h1, fun u hu => new_list mu s (cut_rel lo hi h2) p hu⟩
    · exact p.elim
def fSl (mu : Bool) (fa : FE) (fl fh : FO) : FE := fun en S => (fa en S).bind fun d S1 => (fl en S1).bind fun lo S2 => (fh en S2).bind fun hi S3 => ofO (gSl mu d lo hi S3)
theorem pf_sl (mu : Bool) {X : Cx} {Wx : WX} {a : Expr} {lo hi : Option Expr} {fa : FE} {fl fh : FO} {pos p2 : Pos} (ha : PFE X Wx a fa) (hl : PFO X Wx lo fl) (hh : PFO X Wx hi fh) : PFE X Wx (.Subscript a (.Slice lo hi none p2) pos) (fSl mu fa fl fh) := by
  refine ⟨fun W H σ en S Q he hs hp => PE_w (pe_slice sl_all pe_w po_w po_w) (ha.run W H σ en S _ he hs (Post.bind hp fun d S1 W1 H1 v e1 s1 r1 p1 => ?_))⟩
  refine hl.run W1 H1 σ en S1 _ (he.ext e1) s1 (Post.bind p1 fun l S2 W2 H2 l' e2 s2 r2 p2 => ?_)
  refine hh.run W2 H2 σ en S2 _ ((he.ext e1).ext e2) s2 (Post.bind p2 fun h S3 W3 H3 h' e3 s3 r3 p3 => ?_)
  cases r2; cases r3
  exact sld mu s3 (r1.ext (e2.trans e3)) (postO p3)
end ix
/-! ### methods of built-in types -/
abbrev GM := D → List D → So → Option (D × So)
def MtD (K : PySem.W.Frag) (r : V → List V → Hp → VK → Prop) (g : GM) : Prop := ∀ (W : Wd) (H : Hp) (S : So) (x : V) (vs : List V) (d : D) (ds : List D) (Q : VK), SRel K W H S → DRel K W H d x → DRels K W H ds vs → PostO K W H (g d ds S) Q → r x vs H Q
/-- of that built-in type -/
def isTy (S : So) (T : String) : D → Bool
  | .str _ => decide (T = "str")
  | .lst _ => decide (T = "list")
  | .ref n => match S[n]? with
    | some (.lst _) => decide (T = "list")
    | some (.dic _) => decide (T = "dict")
    | _ => false
  | _ => false
theorem isTy_rel {K : PySem.W.Frag} {W : Wd} {H : Hp} {S : So} {d : D} {v : V} {T : String} (s : SRel K W H S) (r : DRel K W H d v) (h : isTy S T d = true) : tyV K T v H := by
  cases d with
  | str x => unfold DRel at r; subst r; simp only [isTy, decide_eq_true_eq] at h; exact h
  | lst ds =>
    unfold DRel at r; obtain ⟨a, vs, rfl, h1, _⟩ := r
    simp only [isTy, decide_eq_true_eq] at h
    exact .inl ⟨h, vs, h1.sq⟩
  | ref n =>
    unfold DRel at r; obtain ⟨a, rfl, h1⟩ := r
    simp only [isTy] at h
    split at h
    · rename_i hn
      simp only [decide_eq_true_eq] at h
      obtain ⟨vs, h2, _⟩ := s.obj n a _ h1 hn
      exact .inl ⟨h, vs, .of h2⟩
    · rename_i hn
      simp only [decide_eq_true_eq] at h
      obtain ⟨vs, h2, _⟩ := s.obj n a _ h1 hn
      exact .inr (.inr (.inl ⟨h, .inl ⟨vs, h2⟩⟩))
    · cases h
  | _ => simp [isTy] at h
def fBM (T : String) (g : GM) (fo : FE) (fa : FA) : FE := fun en S => (fo en S).bind fun d S1 => if isTy S1 T d = true then (fa en S1).bind fun ds S2 => ofO (g d ds S2) else .no
section bm
variable {X : Cx} {Wx : WX} {o e : Expr} {es : List Expr} {fo : FE} {fa : FA} {name : Str} {apos cpos : Pos} {T id : String} {r : V → List V → Hp → VK → Prop} {g : GM}
theorem pf_bm (pa : PlainAttrs T) (slot : Slot T name id) (hty : typeOf (.builtin id) = pure (.type "method_descriptor")) (hm : MtR X id r) (hd : MtD X.K r g) (ho : PFE X Wx o fo) (ha : PFA X Wx (e :: es) fa)
    (hbase : attributeBase o name X.env (eval o X.env) = eval o X.env := by rfl)
    (hfew : ((backTo cpos (starEach (e :: es) X.env)).all (fun x => !x.1) && (backToKw cpos (keywordEach [] X.env)).all (fun x => x.1.isSome) && decide ((e :: es).length + ([] : List Keyword).length + (if ([] : List Keyword).isEmpty then 0 else 1) < 30)) = true := by rfl)
    (hline : (apos.endLine == cpos.line) = true := by rfl) (hs : starEach (e :: es) X.env = (false, eval e X.env) :: starEach es X.env := by rfl) (hplain : (backTo cpos (starEach es X.env)).any (·.1) = false := by rfl) : PFE X Wx (.Call (.Attribute o name apos) (e :: es) [] cpos) (fBM T g fo fa) := by
  refine ⟨fun W H σ en S Q he hs' hp => PE_w (pe_bm pa slot hty hm pe_w pa_w hbase hfew hline hs hplain) (ho.run W H σ en S _ he hs' (Post.bind hp fun d S1 W1 H1 v e1 s1 r1 p1 => ?_))⟩
  split at p1
  · rename_i hT
    refine ⟨isTy_rel s1 r1 hT, ha.run W1 H1 σ en S1 _ (he.ext e1) s1 (Post.bind p1 fun ds S2 W2 H2 vs e2 s2 r2 p2 => ?_)⟩
    exact hd W2 H2 S2 v vs d ds Q s2 (r1.ext e2) r2 (postO p2)
  · exact p1.elim
theorem pf_bm0 (pa : PlainAttrs T) (slot : Slot T name id) (hty : typeOf (.builtin id) = pure (.type "method_descriptor")) (hm : MtR X id r) (hd : MtD X.K r g) (ho : PFE X Wx o fo)
    (hbase : attributeBase o name X.env (eval o X.env) = eval o X.env := by rfl) (hline : (apos.endLine == cpos.line) = true := by rfl) : PFE X Wx (.Call (.Attribute o name apos) [] [] cpos) (fBM T g fo fNil) := by
  refine ⟨fun W H σ en S Q he hs hp => PE_w (pe_bm0 pa slot hty hm pe_w hbase hline) (ho.run W H σ en S _ he hs (Post.bind hp fun d S1 W1 H1 v e1 s1 r1 p1 => ?_))⟩
  split at p1
  · rename_i hT
    exact ⟨isTy_rel s1 r1 hT, hd W1 H1 S1 v [] d [] Q s1 r1 DRels.nil (postO p1)⟩
  · exact p1.elim
end bm
/-- a list of the store -/
def atL (S : So) : D → Option (Nat × List D)
  | .ref n => match S[n]? with
    | some (.lst ds) => some (n, ds)
    | _ => none
  | _ => none
section muta
variable {K : PySem.W.Frag}
theorem atL_rel {W : Wd} {H : Hp} {S : So} {d : D} {v : V} {n : Nat} {ds : List D} (s : SRel K W H S) (r : DRel K W H d v) (h : atL S d = some (n, ds)) : ∃ a vs, v = .ref a ∧ W.m[n]? = some a ∧ H a = some (.lst vs) ∧ DRels K W H ds vs := by
  cases d with
  | ref m =>
    simp only [atL] at h
    unfold DRel at r; obtain ⟨a, rfl, h1⟩ := r
    split at h
    · rename_i hn
      cases h
      obtain ⟨vs, h2, h3⟩ := s.obj _ a _ h1 hn
      exact ⟨a, vs, rfl, h1, h2, h3⟩
    · cases h
  | _ => simp only [atL] at h; cases h
theorem upd_list {W : Wd} {H : Hp} {S : So} {n : Nat} {a : Addr} {ds : List D} {vs : List V} {d : D} {v : V} {Q : VK} (s : SRel K W H S) (hn : W.m[n]? = some a) (r : DRels K W H ds vs) (rd : DRel K W H d v) (p : PostO K W H (some (d, S.set n (.lst ds))) Q) : Q v (upd H a (.lst vs)) :=
  p W _ v (ext_upd s hn) (s.upd hn trivial ⟨vs, upd_same, r.ext (ext_upd s hn)⟩) (rd.ext (ext_upd s hn))
def gAppend : GM := fun o ds S => match atL S o, ds with
  | some (n, xs), [y] => if xs.length < sizeLine then some (.non, S.set n (.lst (xs ++ [y]))) else none
  | _, _ => none
theorem md_append : MtD K rAppend gAppend := by
  intro W H S x vs d ds Q s rd rs p
  unfold gAppend at p
  split at p
  · obtain ⟨v, rfl, h1⟩ := drels1 rs
    obtain ⟨a, us, rfl, h2, h3, h4⟩ := atL_rel s rd (by assumption)
    split at p
    · exact ⟨a, us, v, rfl, rfl, h3, by rw [← h4.length]; assumption, upd_list s h2 (h4.append (DRels.cons h1 DRels.nil)) dnon p⟩
    · exact p.elim
  · exact p.elim
def gPop : GM := fun o ds S => match atL S o, ds with
  | some (n, xs), [] => match xs[xs.length - 1]? with
    | some y => some (y, S.set n (.lst xs.dropLast))
    | none => none
  | _, _ => none
theorem md_pop : MtD K rPop gPop := by
  intro W H S x vs d ds Q s rd rs p
  unfold gPop at p
  split at p
  · unfold DRels at rs; subst rs
    obtain ⟨a, us, rfl, h2, h3, h4⟩ := atL_rel s rd (by assumption)
    split at p
    · rename_i y hy
      obtain ⟨v, h5, h6⟩ := h4.get hy
      exact ⟨a, us, v, rfl, rfl, h3, by rw [← h4.length]; exact h5, upd_list s h2 h4.dropLast h6 p⟩
    · exact p.elim
  · exact p.elim
def gPopAt : GM := fun o ds S => match atL S o, ds with
  | some (n, xs), [.int i] => if -(2 ^ 63) ≤ i ∧ i < 2 ^ 63 then (match ixN xs.length i with
    | some j => match xs[j]? with
      | some y => some (y, S.set n (.lst (xs.eraseIdx j)))
      | none => none
    | none => none) else none
  | _, _ => none
theorem md_popAt : MtD K rPopAt gPopAt := by
  intro W H S x vs d ds Q s rd rs p
  unfold gPopAt at p
  split at p
  · obtain ⟨v, rfl, h1⟩ := drels1 rs
    unfold DRel at h1; subst h1
    obtain ⟨a, us, rfl, h2, h3, h4⟩ := atL_rel s rd (by assumption)
    split at p
    · rename_i hc
      split at p
      · rename_i j hj
        split at p
        · rename_i y hy
          obtain ⟨v, h5, h6⟩ := h4.get hy
          exact ⟨a, us, _, j, v, rfl, rfl, h3, hc.1, hc.2, by rw [← h4.length]; exact (ixN_seq hj).1, h5, upd_list s h2 (h4.eraseIdx j) h6 p⟩
        · exact p.elim
      · exact p.elim
    · exact p.elim
  · exact p.elim
def gExtend : GM := fun o ds S => match atL S o, ds with
  | some (n, xs), [e] => match lsOf S e with
    | some ys => if xs.length + ys.length ≤ sizeLine then some (.non, S.set n (.lst (xs ++ ys))) else none
    | none => none
  | _, _ => none
theorem md_extend : MtD K rExtend gExtend := by
  intro W H S x vs d ds Q s rd rs p
  unfold gExtend at p
  split at p
  · obtain ⟨v, rfl, h1⟩ := drels1 rs
    obtain ⟨a, us, rfl, h2, h3, h4⟩ := atL_rel s rd (by assumption)
    split at p
    · obtain ⟨b, zs, rfl, h5, h6⟩ := lsOf_rel s h1 (by assumption)
      split at p
      · exact ⟨a, b, us, zs, rfl, rfl, h3, h5, by rw [← h4.length, ← h6.length]; assumption, upd_list s h2 (h4.append h6) dnon p⟩
      · exact p.elim
    · exact p.elim
  · exact p.elim
/-! o[i] = v -/
def gSet (o i v : D) (S : So) : Option So := match atL S o, i with
  | some (n, xs), .int k => match ixN xs.length k with
    | some j => some (S.set n (.lst (xs.set j v)))
    | none => none
  | _, _ => none
def gtSub (fo fi : FE) : FG := fun d en S => match fo en S with
  | .ok o S1 => match fi en S1 with
    | .ok i S2 => match gSet o i d S2 with
      | some S3 => some (en, S3)
      | none => none
    | _ => none
  | _ => none
theorem pfg_sub {X : Cx} {Wx : WX} {o i : Expr} {fo fi : FE} {pos : Pos} (ho : PFE X Wx o fo) (hi : PFE X Wx i fi)
    (ha : ∀ v, assign (.Subscript o i pos) X.env v = (do
      let ov ← holding [v] (eval o X.env)
      let iv ← holding [v, ov] (eval i X.env)
      standAt pos
      holding [v, ov, iv] (setItem ov iv v)
      release [v, ov, iv] []) := by intro _; rfl) : PFG X (.Subscript o i pos) (gtSub fo fi) := by
  refine ⟨fun W H σ en S d v Q he hs r hp => PG_w (pg_sub pe_w pe_w set_list ha) ?_⟩
  unfold gtSub at hp
  split at hp
  · rename_i od S1 ho'
    refine ho.run W H σ en S _ he hs ?_
    rw [ho']
    intro W1 H1 x e1 s1 r1
    split at hp
    · rename_i idd S2 hi'
      refine hi.run W1 H1 σ en S1 _ (he.ext e1) s1 ?_
      rw [hi']
      intro W2 H2 y e2 s2 r2
      split at hp
      · rename_i S3 hS
        unfold gSet at hS
        split at hS
        · rename_i hL
          split at hS
          · rename_i j hj
            cases hS
            obtain ⟨a, us, rfl, h2, h3, h4⟩ := atL_rel s2 (r1.ext e2) hL
            unfold DRel at r2; subst r2
            have hp2 := PostG.later hp (e1.trans e2)
            have rv := r.ext (e1.trans e2)
            refine ⟨a, us, _, j, rfl, rfl, h3, by rw [← h4.length]; exact hj, ?_⟩
            exact hp2 W2 _ σ (ext_upd s2 h2) (s2.upd h2 trivial ⟨_, upd_same, (DRels.set rv j h4).ext (ext_upd s2 h2)⟩) (((he.ext e1).ext e2).ext (ext_upd s2 h2))
          · cases hS
        · cases hS
      · exact hp.elim
    · exact hp.elim
  · exact hp.elim
end muta
/-! ### what is walked -/
def iterOf (S : So) : D → Option ItD
  | .tup ds => some (.items ds)
  | .lst ds => some (.items ds)
  | .ref n => match S[n]? with
    | some (.lst _) => some (.live n)
    | _ => none
  | .str x => some (.items (x.cps.toList.map fun c => .str ⟨#[c]⟩))
  | _ => none
def ofI (o : Option ItD) (S : So) : Rs ItD := match o with
  | some t => .ok t S
  | none => .no
def fiSeq (f : FE) : FI := fun en S => (f en S).bind fun d S1 => ofI (iterOf S1 d) S1
section iters
variable {K : PySem.W.Frag} {W : Wd} {H : Hp}
theorem itr_list {a : Addr} {ds : List D} {vs : List V} (h : FzL W H a vs) (r : DRels K W H ds vs) : ItR K W H (.items ds) (Itl K a) := by
  intro W' H' S x s i
  have hl := h.ext x
  have r' := r.ext x
  simp only [ItD.at]
  cases e : ds[i]? with
  | none => exact ⟨vs, hl.sq, by rw [← r'.length]; exact List.getElem?_eq_none_iff.mp e⟩
  | some d =>
    obtain ⟨v, h1, h2⟩ := r'.get e
    refine ⟨⟨vs, v, hl.sq, h1⟩, fun y H'' hy => ?_⟩
    obtain ⟨rfl, hy⟩ := hy
    have := hy vs hl.sq
    rw [h1] at this
    cases this
    exact ⟨Ext.refl, s, h2⟩
theorem itr_tup {a : Addr} {ds : List D} {vs : List V} (h : SqT K H a vs) (r : DRels K W H ds vs) : ItR K W H (.items ds) (Itt K a) := by
  intro W' H' S x s i
  have hl := x.tup _ _ h
  have r' := r.ext x
  simp only [ItD.at]
  cases e : ds[i]? with
  | none => exact ⟨vs, hl, by rw [← r'.length]; exact List.getElem?_eq_none_iff.mp e⟩
  | some d =>
    obtain ⟨v, h1, h2⟩ := r'.get e
    refine ⟨⟨vs, v, hl, h1⟩, fun y H'' hy => ?_⟩
    obtain ⟨rfl, hy⟩ := hy
    have := hy vs hl
    rw [h1] at this
    cases this
    exact ⟨Ext.refl, s, h2⟩
theorem itr_live {a : Addr} {n : Nat} (h : W.m[n]? = some a) : ItR K W H (.live n) (Itl K a) := by
  intro W' H' S x s i
  simp only [ItD.at]
  cases c : S[n]? with
  | none => trivial
  | some o =>
    cases o with
    | lst ds =>
      simp only
      obtain ⟨vs, h1, r'⟩ := s.obj n a _ (x.m _ _ h) c
      cases e : ds[i]? with
      | none => exact ⟨vs, .of h1, by rw [← r'.length]; exact List.getElem?_eq_none_iff.mp e⟩
      | some d =>
        obtain ⟨v, h3, h2⟩ := r'.get e
        refine ⟨⟨vs, v, .of h1, h3⟩, fun y H'' hy => ?_⟩
        obtain ⟨rfl, hy⟩ := hy
        have := hy vs (.of h1)
        rw [h3] at this
        cases this
        exact ⟨Ext.refl, s, h2⟩
    | _ => trivial
theorem itr_str {x : Str} : ItR K W H (.items (x.cps.toList.map fun c => .str ⟨#[c]⟩)) (Its x) := by
  intro W' H' S e s i
  simp only [ItD.at, List.getElem?_map]
  cases c : x.cps.toList[i]? with
  | none =>
    simp only [Option.map_none]
    have := List.getElem?_eq_none_iff.mp c
    show x.cps.size ≤ i
    simpa using this
  | some d =>
    simp only [Option.map_some]
    have hc : x.cps[i]? = some d := by simpa using c
    have hl := (List.getElem?_eq_some_iff.mp c).1
    refine ⟨(show i < x.cps.size by simpa using hl), fun y H'' hy => ?_⟩
    obtain ⟨rfl, c', h1, rfl⟩ := hy
    rw [hc] at h1; cases h1
    exact ⟨Ext.refl, s, dstr⟩
/-- lo, lo + 1, .. -/
def rgD (lo : Int) (n : Nat) : List D := (List.range n).map fun (i : Nat) => D.int (lo + (i : Int))
theorem itr_range {lo : Int} {n : Nat} : ItR K W H (.items (rgD lo n)) (Itr lo n) := by
  intro W' H' S e s i
  simp only [ItD.at, rgD, List.getElem?_map]
  by_cases c : i < n
  · rw [List.getElem?_range c]
    refine ⟨c, fun y H'' hy => ?_⟩
    obtain ⟨rfl, rfl⟩ := hy
    exact ⟨Ext.refl, s, dint⟩
  · rw [List.getElem?_eq_none (by simpa using c)]
    exact Nat.le_of_not_lt c
def rgC (lo c : Int) (n : Nat) : List D := (List.range n).map fun (i : Nat) => D.int (lo + (i : Int) * c)
theorem itr_rangeC {lo c : Int} {n : Nat} : ItR K W H (.items (rgC lo c n)) (Itc lo c n) := by
  intro W' H' S e s i
  simp only [ItD.at, rgC, List.getElem?_map]
  by_cases q : i < n
  · rw [List.getElem?_range q]
    refine ⟨q, fun y H'' hy => ?_⟩
    obtain ⟨rfl, rfl⟩ := hy
    exact ⟨Ext.refl, s, dint⟩
  · rw [List.getElem?_eq_none (by simpa using q)]
    exact Nat.le_of_not_lt q
def enumD (k : Nat) : List D → List D
  | [] => []
  | d :: ds => .tup [.int (k : Int), d] :: enumD (k + 1) ds
theorem enumD_get : ∀ (ds : List D) (k i : Nat), (enumD k ds)[i]? = (ds[i]?).map fun d => .tup [.int ((k + i : Nat) : Int), d]
  | [], k, i => by simp [enumD]
  | d :: ds, k, 0 => by simp [enumD]
  | d :: ds, k, i + 1 => by
    simp only [enumD, List.getElem?_cons_succ, enumD_get ds (k + 1) i]
    rw [show k + 1 + i = k + (i + 1) by omega]
theorem itr_enum {a : Addr} {ds : List D} {vs : List V} (h : FzL W H a vs) (r : DRels K W H ds vs) : ItR K W H (.items (enumD 0 ds)) (Ite K a) := by
  intro W' H' S x s i
  have hl := h.ext x
  have r' := r.ext x
  simp only [ItD.at, enumD_get]
  cases e : ds[i]? with
  | none => exact ⟨vs, hl.sq, by rw [← r'.length]; exact List.getElem?_eq_none_iff.mp e⟩
  | some d =>
    obtain ⟨v, h1, h2⟩ := r'.get e
    refine ⟨⟨vs, v, hl.sq, h1⟩, fun y H'' hy => ?_⟩
    obtain ⟨T, x', rfl, hT, rfl, hy⟩ := hy
    have := hy vs hl.sq
    rw [h1] at this
    cases this
    refine ⟨ext_more s hT, s.more hT, ?_⟩
    have := drel_tup (K := K) (W := W') (ds := [.int ((0 + i : Nat) : Int), d]) s hT (DRels.cons (v := .int (i : Nat)) (by unfold DRel; simp) (DRels.cons h2 DRels.nil))
    exact this
end iters
section walked
variable {X : Cx} {Wx : WX} {tg l e a b c : Expr} {fe : FE} {fa : FA} {p pos tpos : Pos}
theorem pfi_seq (h : PFE X Wx l fe) : PFI X Wx tg l (fiSeq fe) := by
  refine ⟨fun W H σ en S Q he hs hp => ?_⟩
  unfold fiSeq at hp
  cases q : fe en S with
  | no => rw [q] at hp; exact hp.elim
  | ex C S1 => rw [q] at hp; exact PI_w (pi_list pe_w) (h.run W H σ en S _ he hs (by rw [q]; exact hp))
  | ok d S1 =>
    rw [q] at hp
    have go : ∀ {R : V → Hp → Prop}, (∀ W1 H1 v, Ext X.K W H W1 H1 → SRel X.K W1 H1 S1 → DRel X.K W1 H1 d v → Post X.K ItR W1 H1 (ofI (iterOf S1 d) S1) Q (Wish Wx σ) → R v H1) → wE X l σ H R := fun k =>
      h.run W H σ en S _ he hs (by rw [q]; exact fun W1 H1 v e1 s1 r1 => k W1 H1 v e1 s1 r1 (Post.later hp e1))
    cases d with
    | tup ds =>
      refine PI_w (pi_tup pe_w) (go fun W1 H1 v e1 s1 r1 p1 => ?_)
      unfold DRel at r1; obtain ⟨a, vs, rfl, h1, h2⟩ := r1
      exact ⟨a, rfl, ⟨vs, h1⟩, p1.here s1 (itr_tup h1 h2)⟩
    | lst ds =>
      refine PI_w (pi_list pe_w) (go fun W1 H1 v e1 s1 r1 p1 => ?_)
      unfold DRel at r1; obtain ⟨a, vs, rfl, h1, h2⟩ := r1
      exact ⟨a, rfl, ⟨vs, h1.sq⟩, p1.here s1 (itr_list h1 h2)⟩
    | ref n =>
      refine PI_w (pi_list pe_w) (go fun W1 H1 v e1 s1 r1 p1 => ?_)
      unfold DRel at r1; obtain ⟨a, rfl, h1⟩ := r1
      simp only [iterOf] at p1
      split at p1
      · rename_i ds hn
        obtain ⟨vs, h2, h3⟩ := s1.obj n a _ h1 hn
        exact ⟨a, rfl, ⟨vs, .of h2⟩, p1.here s1 (itr_live h1)⟩
      · exact p1.elim
    | str x =>
      refine PI_w (pi_str pe_w) (go fun W1 H1 v e1 s1 r1 p1 => ?_)
      unfold DRel at r1
      exact ⟨x, r1, p1.here s1 itr_str⟩
    | _ => exact hp.elim
/-- the ends of a range -/
def fiRng1 (fa : FA) : FI := fun en S => (fa en S).bind fun ds S1 => match ds with
  | [.int j] => if -(2 ^ 62) ≤ j ∧ j < 2 ^ 62 then .ok (.items (rgD 0 j.toNat)) S1 else .no
  | _ => .no
def fiRng2 (fa : FA) : FI := fun en S => (fa en S).bind fun ds S1 => match ds with
  | [.int i, .int j] => if -(2 ^ 62) ≤ i ∧ i < 2 ^ 62 ∧ -(2 ^ 62) ≤ j ∧ j < 2 ^ 62 then .ok (.items (rgD i (j - i).toNat)) S1 else .no
  | _ => .no
theorem pfi_range1 (hg : Gl X "range") (hm : X.mg "range" = none) (ha : PFA X Wx [a] fa) (hs : starEach [a] X.env = [(false, eval a X.env)] := by rfl) : PFI X Wx tg (.Call (.Name "range" p) [a] [] pos) (fiRng1 fa) := by
  refine ⟨fun W H σ en S Q he hs' hp => PI_w (pi_range1 hg hm pa_w hs) (ha.run W H σ en S _ he hs' (Post.bind hp fun ds S1 W1 H1 vs e1 s1 r1 p1 => ?_))⟩
  split at p1
  · obtain ⟨v, rfl, h1⟩ := drels1 r1
    unfold DRel at h1; subst h1
    split at p1
    · rename_i hc
      exact ⟨_, rfl, hc.1, hc.2, p1.here s1 itr_range⟩
    · exact p1.elim
  · exact p1.elim
theorem pfi_range2 (hg : Gl X "range") (hm : X.mg "range" = none) (ha : PFA X Wx [a, b] fa) (hs : starEach [a, b] X.env = [(false, eval a X.env), (false, eval b X.env)] := by rfl) (hs2 : starEach [b] X.env = [(false, eval b X.env)] := by rfl) : PFI X Wx tg (.Call (.Name "range" p) [a, b] [] pos) (fiRng2 fa) := by
  refine ⟨fun W H σ en S Q he hs' hp => PI_w (pi_range2 hg hm pa_w hs hs2) (ha.run W H σ en S _ he hs' (Post.bind hp fun ds S1 W1 H1 vs e1 s1 r1 p1 => ?_))⟩
  split at p1
  · obtain ⟨v, u, rfl, h1, h2⟩ := drels2 r1
    unfold DRel at h1 h2; subst h1; subst h2
    split at p1
    · rename_i hc
      exact ⟨_, _, rfl, hc, p1.here s1 itr_range⟩
    · exact p1.elim
  · exact p1.elim
/-- enumerate of a frozen list -/
def fiEnum (fa : FA) : FI := fun en S => (fa en S).bind fun ds S1 => match ds with
  | [.lst xs] => .ok (.items (enumD 0 xs)) S1
  | _ => .no
theorem pfi_enum {elts : List Expr} {kk : Nat} (hg : Gl X "enumerate") (hm : X.mg "enumerate" = none) (ha : PFA X Wx [a] fa) (hs : starEach [a] X.env = [(false, eval a X.env)] := by rfl) : PFI X Wx (.Tuple elts kk tpos) (.Call (.Name "enumerate" p) [a] [] pos) (fiEnum fa) := by
  refine ⟨fun W H σ en S Q he hs' hp => PI_w (pi_enum hg hm pa_w hs) (ha.run W H σ en S _ he hs' (Post.bind hp fun ds S1 W1 H1 vs e1 s1 r1 p1 => ?_))⟩
  split at p1
  · obtain ⟨v, rfl, h1⟩ := drels1 r1
    unfold DRel at h1; obtain ⟨q, us, rfl, h1, h2⟩ := h1
    exact ⟨q, us, rfl, h1.sq, p1.here s1 (itr_enum h1 h2)⟩
  · exact p1.elim
end walked
end PF

namespace PF
open PySem L2
/-! ### list comprehensions -/
/-- the turns over fixed items -/
def lcL (g : FG) (c : FT) (f : FE) (en : En) : List D → List D → So → Rs (List D)
  | [], acc, S => .ok acc S
  | d :: ds, acc, S => match g d en S with
    | none => .no
    | some (e1, S1) => (c e1 S1).bind fun k S2 => if k = true then (f e1 S2).bind fun y S3 => if acc.length < sizeLine then lcL g c f en ds (acc ++ [y]) S3 else .no else lcL g c f en ds acc S2
def lcR (g : FG) (c : FT) (f : FE) (en : En) (n : Nat) : Nat → Nat → List D → So → Rs (List D)
  | 0, _, _, _ => .no
  | m + 1, i, acc, S => match S[n]? with
    | some (.lst ds) => match ds[i]? with
      | none => .ok acc S
      | some d => match g d en S with
        | none => .no
        | some (e1, S1) => (c e1 S1).bind fun k S2 => if k = true then (f e1 S2).bind fun y S3 => if acc.length < sizeLine then lcR g c f en n m (i + 1) (acc ++ [y]) S3 else .no else lcR g c f en n m (i + 1) acc S2
    | _ => .no
def wipeD (en : En) : List Nat → En
  | [] => en
  | v :: vs => (wipeD en vs).set v none
theorem wipe_rel {K : PySem.W.Frag} {W : Wd} {H : Hp} {en : En} {σ : St} (h : ERel K W H en σ) : ∀ vs : List Nat, ERel K W H (wipeD en vs) (wipe σ vs)
  | [] => h
  | v :: vs => (wipe_rel h vs).clear
/-- nothing is raised in a comprehension's turns -/
def noX (r : Rs (List D)) : Rs (List D) := match r with
  | .ok a S => .ok a S
  | _ => .no
def lcT (m : Nat) (g : FG) (c : FT) (f : FE) (en : En) (t : ItD) (S : So) : Rs (List D) := match t with
  | .items ds => lcL g c f en ds [] S
  | .live n => lcR g c f en n m 0 [] S
def fLc (m : Nat) (mu : Bool) (vs : List Nat) (fi : FI) (g : FG) (c : FT) (f : FE) : FE := fun en S => (fi en S).bind fun t S1 => (noX (lcT m g c f (wipeD en vs) t S1)).bind fun ds S2 => ofO (some (newL mu ds S2))
/-- a target that writes the names at vs alone -/
structure OwnG (K : PySem.W.Frag) (t : TG) (vs : List Nat) (g : FG) : Prop where
  keep : ∀ d en S e1 S1, g d en S = some (e1, S1) → S1 = S
  run : ∀ (W : Wd) (H : Hp) (σ : St) (en : En) (S : So) (d : D) (v : V) (e1 : En) (S1 : So) (Q : St → Hp → Prop), ERel K W H en σ → DRel K W H d v → g d en S = some (e1, S1) →
    (∀ σ2, wipe σ2 vs = wipe σ vs → ERel K W H e1 σ2 → Q σ2 H) → t v σ H Q
abbrev F0 : WX := fun _ _ _ _ => False
def Wd.res (W : Wd) (p : Addr) : Wd := ⟨W.m, W.fz, fun a => W.rs a ∨ a = p⟩
def Wd.unr (W : Wd) (p : Addr) : Wd := ⟨W.m, W.fz, fun a => W.rs a ∧ a ≠ p⟩
section res
variable {K : PySem.W.Frag} {W W' : Wd} {H : Hp} {S : So} {p : Addr}
theorem ext0_res {H' : Hp} (hH : H' = H) (hm : W'.m = W.m) (hf : W'.fz = W.fz) : Ext0 K W H W' H' := by
  subst hH
  exact ⟨fun n a h => by rw [hm]; exact h, fun a h => by rw [hf]; exact h, fun _ _ h => h, fun _ _ _ h => h, fun _ _ _ h => h⟩
theorem SRel.res {o : HO} (s : SRel K W H S) (hp : H p = some o) (hm : p ∉ W.m) (hf : ¬ W.fz p) : SRel K (W.res p) H S where
  len := s.len
  inj := s.inj
  dom := s.dom
  fzd := s.fzd
  dis := s.dis
  rsd := fun a h => by
    rcases h with h | rfl
    · exact s.rsd a h
    · exact ⟨⟨o, hp⟩, hm, hf⟩
  obj := fun n a ob h h' => (s.obj n a ob h h').ext (ext0_res (W := W) (W' := W.res p) rfl rfl rfl) rfl
theorem SRel.ofres (s : SRel K (W.res p) H S) : SRel K W H S :=
  ⟨s.len, s.inj, s.dom, s.fzd, s.dis, fun a z => s.rsd a (.inl z), fun n a ob z z' => (s.obj n a ob z z').ext (ext0_res (W := W.res p) (W' := W) rfl rfl rfl) rfl⟩
theorem ext_res : Ext K W H (W.res p) H := ⟨ext0_res rfl rfl rfl, fun a h => ⟨.inl h, rfl⟩⟩
theorem SRel.unr (s : SRel K W H S) : SRel K (W.unr p) H S :=
  ⟨s.len, s.inj, s.dom, s.fzd, s.dis, fun a z => s.rsd a z.1, fun n a ob z z' => (s.obj n a ob z z').ext (ext0_res (W := W) (W' := W.unr p) rfl rfl rfl) rfl⟩
/-- a list outside of the world changes -/
theorem ext0_out {vs : List V} {o : HO} (hp : H p = some (.lst vs)) (hf : ¬ W.fz p) (hm : W'.m = W.m) (hz : W'.fz = W.fz) : Ext0 K W H W' (upd H p o) where
  m := fun n a h => by rw [hm]; exact h
  fz := fun a h => by rw [hz]; exact h
  tup := fun a us h => by
    rcases h with (h | ⟨u, h⟩) | h
    · exact .inl (.inl (by rw [upd_ne (by rintro rfl; rw [h] at hp; cases hp)]; exact h))
    · exact .inl (.inr ⟨u, by rw [upd_ne (by rintro rfl; rw [h] at hp; cases hp)]; exact h⟩)
    · exact .inr h
  lst := fun a us f h => by rw [upd_ne (by rintro rfl; exact hf f)]; exact h
  scr := fun a u us h => by rw [upd_ne (by rintro rfl; rw [h] at hp; cases hp)]; exact h
theorem SRel.out {vs : List V} {o : HO} (s : SRel K W H S) (hp : H p = some (.lst vs)) (hm : p ∉ W.m) (hf : ¬ W.fz p) : SRel K (W.unr p) (L2.upd H p o) S where
  len := s.len
  inj := s.inj
  dom := fun n a h => by rw [upd_ne (by rintro rfl; exact hm (List.mem_of_getElem? h))]; exact s.dom n a h
  fzd := fun a h => by rw [upd_ne (by rintro rfl; exact hf h)]; exact s.fzd a h
  dis := s.dis
  rsd := fun a h => by rw [upd_ne h.2]; exact s.rsd a h.1
  obj := fun n a ob h h' => (s.obj n a ob h h').ext (ext0_out (W' := W.unr p) hp hf rfl rfl) (upd_ne (by rintro rfl; exact hm (List.mem_of_getElem? h)))
/-- a list outside of the world comes into it -/
theorem come_in {vs : List V} {ds : List D} {Q : VK} (mu : Bool) (s : SRel K W H S) (hp : H p = some (.lst vs)) (hm : p ∉ W.m) (hf : ¬ W.fz p) (hr : ¬ W.rs p) (r : DRels K W H ds vs) (h : PostO K W H (some (newL mu ds S)) Q) : Q (.ref p) H := by
  cases mu with
  | true =>
    have x : Ext0 K W H (W.add p) H := ⟨fun n a q => by
      show (W.m ++ [p])[n]? = _
      rw [List.getElem?_append_left (List.getElem?_eq_some_iff.mp q).1]; exact q, fun _ q => q, fun _ _ q => q, fun _ _ _ q => q, fun _ _ _ q => q⟩
    refine h (W.add p) H (.ref p) ⟨x, fun a q => ⟨q, rfl⟩⟩ ?_ (drel_add s)
    have at' : ∀ (n : Nat) (a : Addr), (W.m ++ [p])[n]? = some a → (n < W.m.length ∧ W.m[n]? = some a) ∨ (n = W.m.length ∧ a = p) := fun n a q => by
      by_cases c : n < W.m.length
      · rw [List.getElem?_append_left c] at q; exact .inl ⟨c, q⟩
      · rw [List.getElem?_append_right (by omega)] at q
        cases e : n - W.m.length with
        | zero => rw [e] at q; exact .inr ⟨by omega, by simpa using q.symm⟩
        | succ k => rw [e] at q; simp at q
    refine ⟨by show (W.m ++ [p]).length = _; simp [s.len], ?_, ?_, s.fzd, ?_, ?_, ?_⟩
    · show (W.m ++ [p]).Nodup
      rw [List.nodup_append]
      refine ⟨s.inj, by simp, fun a ha b hb => ?_⟩
      have hb' : b = p := by simpa using hb
      rw [hb']; rintro rfl; exact hm ha
    · intro n a q
      rcases at' n a q with ⟨_, q⟩ | ⟨_, rfl⟩
      · exact s.dom n a q
      · rw [hp]; trivial
    · intro n a q f
      rcases at' n a q with ⟨_, q⟩ | ⟨_, rfl⟩
      · exact s.dis n a q f
      · exact hf f
    · intro a q
      refine ⟨(s.rsd a q).1, fun z => ?_, (s.rsd a q).2.2⟩
      rcases List.mem_append.mp (show a ∈ W.m ++ [p] from z) with z | z
      · exact (s.rsd a q).2.1 z
      · have : a = p := by simpa using z
        subst this; exact hr q
    · intro n a ob q q'
      rcases at' n a q with ⟨c, q⟩ | ⟨e, rfl⟩
      · rw [List.getElem?_append_left (by rw [← s.len]; exact c)] at q'
        exact (s.obj n a ob q q').ext x rfl
      · subst e
        rw [s.len, List.getElem?_append_right (Nat.le_refl _)] at q'
        simp at q'; subst q'
        exact ⟨vs, hp, r.ext0 x⟩
  | false =>
    have x : Ext0 K W H (W.frz p) H := ⟨fun _ _ q => q, fun _ q => .inl q, fun _ _ q => q, fun _ _ _ q => q, fun _ _ _ q => q⟩
    refine h (W.frz p) H (.ref p) ⟨x, fun a q => ⟨q, rfl⟩⟩ ?_ ?_
    · refine ⟨s.len, s.inj, s.dom, fun a q => q.elim (s.fzd a) (by rintro rfl; exact ⟨_, hp⟩), fun n a q f => ?_, fun a q => ⟨(s.rsd a q).1, (s.rsd a q).2.1, fun f => ?_⟩, fun n a ob q q' => (s.obj n a ob q q').ext x rfl⟩
      · rcases f with f | rfl
        · exact s.dis n a q f
        · exact hm (List.mem_of_getElem? q)
      · rcases f with f | rfl
        · exact (s.rsd a q).2.2 f
        · exact hr q
    · unfold DRel
      exact ⟨p, vs, rfl, ⟨.inr rfl, hp⟩, r.ext0 x⟩
end res
section comp
variable {X : Cx} {Wx : WX} {elt tg iter : Expr} {ifs : List Expr} {scope : Scope} {own : List (Str × Nat)} {pos : Pos} {fi : FI} {g : FG} {c : FT} {f : FE} {t : TG}
/-- the ifs of a clause -/
structure PFTs (X : Cx) (ifs : List Expr) (c : FT) : Prop where
  run : ∀ (W : Wd) (H : Hp) (σ : St) (en : En) (S : So) (Q : Bool → Hp → Prop), ERel X.K W H en σ → SRel X.K W H S → Post X.K EqB W H (c en S) Q (Wish F0 σ) →
    ∀ (pins : List (Addr × Obj)) (s : Shared), Inv X pins σ H s → wpAny (model X.prog X.w) X.A (forIn ifs true fun c r => if r = true then do let ok ← isTrue c X.env (eval c X.env); pure (ForInStep.yield ok) else pure (ForInStep.yield r)) (TP X pins σ Q) X.xe s
def fYes : FT := fun _ S => .ok true S
theorem pfts_nil : PFTs X [] fYes := ⟨fun W H σ en S Q he hs hp pins s I => pts_nil.run pins s σ H Q I (Post.here hp hs rfl)⟩
theorem pfts_one {e : Expr} {c : FT} (h : PFT X F0 e c) : PFTs X [e] c := ⟨fun W H σ en S Q he hs hp pins s I => (pts_one pt_w).run pins s σ H Q I (h.run W H σ en S Q he hs hp)⟩
/-- the readings of a turn's parts, the same whatever the block's context is -/
def tyE (K : PySem.W.Frag) (f : FE) : TE := fun σ H Q => ∃ W en S, ERel K W H en σ ∧ SRel K W H S ∧ Post K DRel W H (f en S) Q (Wish F0 σ)
def tyT (K : PySem.W.Frag) (f : FT) : TT := fun σ H Q => ∃ W en S, ERel K W H en σ ∧ SRel K W H S ∧ Post K EqB W H (f en S) Q (Wish F0 σ)
theorem pe_ty {X : Cx} {e : Expr} (h : PFE X F0 e f) : PE X e (tyE X.K f) := ⟨fun pins s σ H Q I ⟨W, en, S, he, hs, hp⟩ => h.run W H σ en S Q he hs hp pins s I⟩
theorem pts_ty {X : Cx} {ifs : List Expr} (h : PFTs X ifs c) : PTs X ifs (tyT X.K c) := ⟨fun pins s σ H Q I ⟨W, en, S, he, hs, hp⟩ => h.run W H σ en S Q he hs hp pins s I⟩
/-- one turn -/
theorem lc_turn {K : PySem.W.Frag} {W : Wd} {H : Hp} {σ2 : St} {en1 : En} {S1 SF : So} {p : Addr} {us : List V} {acc accF : List D} {kont : List D → So → Rs (List D)} {Nx : Hp → Prop}
    (he : ERel K W H en1 σ2) (hs : SRel K W H S1) (hp : H p = some (.lst us)) (hm : p ∉ W.m) (hf : ¬ W.fz p) (hr : ¬ W.rs p) (ra : DRels K W H acc us)
    (h : ((c en1 S1).bind fun k S2 => if k = true then (f en1 S2).bind fun y S3 => if acc.length < sizeLine then kont (acc ++ [y]) S3 else .no else kont acc S2) = .ok accF SF)
    (nx : ∀ acc' us' W' H' S', Ext K W H W' H' → H' p = some (.lst us') → p ∉ W'.m → ¬ W'.fz p → ¬ W'.rs p → SRel K W' H' S' → DRels K W' H' acc' us' → kont acc' S' = .ok accF SF → Nx H') :
    tyT K c σ2 H fun b H3 => if b = true then tyE K f σ2 H3 fun y H4 => ∃ ac, H4 p = some (.lst ac) ∧ ac.length < sizeLine ∧ Nx (upd H4 p (.lst (ac ++ [y]))) else Nx H3 := by
  have hsr := hs.res hp hm hf
  have xr : Ext0 K W H (W.res p) H := ext0_res rfl rfl rfl
  -- from the world with p reserved back to one without
  have back : ∀ {W1 : Wd} {H1 : Hp} {S' : So}, Ext K (W.res p) H W1 H1 → SRel K W1 H1 S' → H1 p = some (.lst us) ∧ p ∉ W1.m ∧ ¬ W1.fz p ∧ Ext K W H (W1.unr p) H1 := fun {W1 H1 S'} e s => by
    obtain ⟨h1, h2⟩ := e.rs p (.inr rfl)
    refine ⟨by rw [h2]; exact hp, (s.rsd p h1).2.1, (s.rsd p h1).2.2, ⟨⟨e.m, e.fz, e.tup, e.lst, e.scr⟩, fun a q => ?_⟩⟩
    obtain ⟨q1, q2⟩ := e.rs a (.inl q)
    exact ⟨⟨q1, by rintro rfl; exact hr q⟩, q2⟩
  refine ⟨W.res p, en1, S1, he.ext0 xr, hsr, ?_⟩
  cases q : c en1 S1 with
  | no => rw [q] at h; cases h
  | ex C S2 => rw [q] at h; cases h
  | ok k S2 =>
    rw [q] at h
    intro W1 H1 b e1 s1 r1
    cases r1
    obtain ⟨p1, m1, f1, x1⟩ := back e1 s1
    cases k with
    | false => exact iteF (nx acc us (W1.unr p) H1 S2 x1 p1 m1 f1 (fun z => z.2 rfl) s1.unr (ra.ext x1) h)
    | true =>
      refine iteT ⟨W1, en1, S2, (he.ext0 xr).ext e1, s1, ?_⟩
      simp only [Rs.bind, if_true] at h
      cases q2 : f en1 S2 with
      | no => rw [q2] at h; cases h
      | ex C S3 => rw [q2] at h; cases h
      | ok y S3 =>
        rw [q2] at h
        intro W2 H2 v e2 s2 r2
        obtain ⟨p2, m2, f2, x2⟩ := back (e1.trans e2) s2
        simp only [Rs.bind] at h
        split at h
        · rename_i hl
          refine ⟨us, p2, by rw [← ra.length]; exact hl, ?_⟩
          have x3 : Ext K W H (W2.unr p) (upd H2 p (.lst (us ++ [v]))) := ⟨x2.toExt0.trans (ext0_out (W' := W2.unr p) (W := W2.unr p) p2 f2 rfl rfl), fun a z => ⟨(x2.rs a z).1, (upd_ne (x2.rs a z).1.2).trans (x2.rs a z).2⟩⟩
          refine nx (acc ++ [y]) (us ++ [v]) (W2.unr p) _ S3 x3 upd_same m2 f2 (fun z => z.2 rfl) (s2.out p2 m2 f2) ?_ h
          exact (ra.ext x3).append (DRels.cons (r2.ext0 (ext0_out (W' := W2.unr p) p2 f2 rfl rfl)) DRels.nil)
        · cases h
/-- the comprehension's reading -/
theorem lc_run (m : Nat) (mu : Bool) {vs : List Nat} (hg : OwnG X.K t vs g) (hw : ∀ σ : St, wipe (wipe σ vs) vs = wipe σ vs)
    (hi : PFI X Wx tg iter fi) {W : Wd} {H : Hp} {σ : St} {en : En} {S : So} {Q : VK} (he : ERel X.K W H en σ) (hs : SRel X.K W H S) (hp : Post X.K DRel W H (fLc m mu vs fi g c f en S) Q (Wish Wx σ)) :
    tLc (wI X tg iter) t (tyT X.K c) (tyE X.K f) vs σ H Q := by
  refine hi.run W H σ en S _ he hs (Post.bind hp fun it S1 W1 H1 J e1 s1 r1 p1 => ?_)
  intro p hp0
  have hn1 : p ∉ W1.m := fun z => by
    obtain ⟨n, hn⟩ := List.getElem?_of_mem z
    exact s1.ne hp0 hn rfl
  have hz1 : ¬ W1.fz p := fun z => s1.fzne hp0 z rfl
  have hr1 : ¬ W1.rs p := fun z => s1.rsne hp0 z rfl
  have fin : ∀ {W2 : Wd} {H2 : Hp} {S2 : So} {acc : List D} {us : List V}, Ext X.K W1 H1 W2 H2 → H2 p = some (.lst us) → p ∉ W2.m → ¬ W2.fz p → ¬ W2.rs p → SRel X.K W2 H2 S2 → DRels X.K W2 H2 acc us →
      Post X.K DRel W1 H1 (ofO (some (newL mu acc S2))) Q (Wish Wx σ) → Q (.ref p) H2 := fun x a1 a2 a3 a4 a5 a6 a7 => come_in mu a5 a1 a2 a3 a4 a6 (postO (Post.later a7 x))
  have item : ∀ {W2 : Wd} {H2 H3 : Hp} {S2 : So} {us : List V} {acc : List D} {d : D} {x : V} {e4 : En} {Q' : St → Hp → Prop}, Ext X.K W1 H1 W2 H2 → H2 p = some (.lst us) → p ∉ W2.m → ¬ W2.fz p → ¬ W2.rs p → Ext X.K (W2.res p) H2 (W2.res p) H3 → SRel X.K (W2.res p) H3 S2 → DRel X.K (W2.res p) H3 d x →
      DRels X.K W2 H2 acc us → g d (wipeD en vs) S2 = some (e4, S2) → (∀ σ2, wipe σ2 vs = wipe σ vs → ERel X.K W2 H3 e4 σ2 → Ext X.K W2 H2 W2 H3 → Q' σ2 H3) → t x (wipe σ vs) H3 Q' := by
    intro W2 H2 H3 S2 us acc d x e4 Q' x2 a1 a2 a3 a4 x3 s3 r3 ra q k
    have x3' : Ext X.K W2 H2 W2 H3 := ⟨⟨x3.m, x3.fz, x3.tup, x3.lst, x3.scr⟩, fun a z => ⟨z, (x3.rs a (.inl z)).2⟩⟩
    refine hg.run W2 H3 (wipe σ vs) (wipeD en vs) S2 d x e4 S2 Q' (wipe_rel (((he.ext e1).ext x2).ext x3') vs) (r3.ext0 (ext0_res (W := W2.res p) (W' := W2) rfl rfl rfl)) q fun σ2 h1 h2 => k σ2 (h1.trans (hw σ)) h2 x3'
  cases it with
  | items ds =>
    -- the rest's result is the whole's
    have tot : ∃ accF SF, lcL g c f (wipeD en vs) ds [] S1 = .ok accF SF ∧ Post X.K DRel W1 H1 (ofO (some (newL mu accF SF))) Q (Wish Wx σ) := by
      simp only [lcT] at p1
      cases q : lcL g c f (wipeD en vs) ds [] S1 with
      | ok a b => rw [q] at p1; exact ⟨a, b, rfl, p1⟩
      | ex a b => rw [q] at p1; exact p1.elim
      | no => rw [q] at p1; exact p1.elim
    obtain ⟨accF, SF, hF, pF⟩ := tot
    refine ⟨fun i k H2 => ∃ W2 S2 us acc, k = ds.length - i ∧ i ≤ ds.length ∧ Ext X.K W1 H1 W2 H2 ∧ H2 p = some (.lst us) ∧ p ∉ W2.m ∧ ¬ W2.fz p ∧ ¬ W2.rs p ∧ SRel X.K W2 H2 S2 ∧ DRels X.K W2 H2 acc us ∧ lcL g c f (wipeD en vs) (ds.drop i) acc S2 = .ok accF SF, ⟨_, W1, S1, [], [], rfl, Nat.zero_le _, ext_more s1 hp0, upd_same, hn1, hz1, hr1, s1.more hp0, DRels.nil, hF⟩, ?_⟩
    rintro i k H2 ⟨W2, S2, us, acc, hk, hi', x2, a1, a2, a3, a4, s2, ra, hL⟩
    have hr := r1 (W2.res p) H2 S2 (x2.trans ext_res) (s2.res a1 a2 a3) i
    by_cases cc : i < ds.length
    · rw [List.drop_eq_getElem_cons cc] at hL
      have ed : ItD.at S2 i (.items ds) = some (some ds[i]) := by simp only [ItD.at, List.getElem?_eq_getElem cc]
      rw [ed] at hr
      obtain ⟨hgo, hy⟩ := hr
      refine .inr ⟨hgo, fun H' => ∃ W2 S2 us acc, Ext X.K W1 H1 W2 H' ∧ H' p = some (.lst us) ∧ p ∉ W2.m ∧ ¬ W2.fz p ∧ ¬ W2.rs p ∧ SRel X.K W2 H' S2 ∧ DRels X.K W2 H' acc us ∧ lcL g c f (wipeD en vs) (ds.drop (i + 1)) acc S2 = .ok accF SF, ?_, ?_⟩
      · rintro H' ⟨W3, S3, us3, acc3, q⟩
        exact ⟨ds.length - (i + 1), by omega, W3, S3, us3, acc3, rfl, cc, q⟩
      · intro x H3 hx
        obtain ⟨x3, s3, r3⟩ := hy x H3 hx
        unfold lcL at hL
        cases q : g ds[i] (wipeD en vs) S2 with
        | none => rw [q] at hL; cases hL
        | some pr =>
          obtain ⟨e4, S4⟩ := pr
          have es := hg.keep _ _ _ _ _ q
          subst es
          rw [q] at hL
          refine item x2 a1 a2 a3 a4 x3 s3 r3 ra q fun σ2 hw2 he2 x3' => ?_
          refine ⟨hw2, lc_turn (K := X.K) (kont := fun a s => lcL g c f (wipeD en vs) (ds.drop (i + 1)) a s) he2 s3.ofres (((x3.rs p (.inr rfl)).2).trans a1) a2 a3 a4 (ra.ext x3') hL fun acc' us' W' H' S' y1 y2 y3 y4 y5 y6 y7 y8 => ⟨W', S', us', acc', (x2.trans x3').trans y1, y2, y3, y4, y5, y6, y7, y8⟩⟩
    · have ei : i = ds.length := by omega
      subst ei
      have ed : ItD.at S2 ds.length (.items ds) = some none := by simp only [ItD.at, List.getElem?_eq_none (Nat.le_refl _)]
      rw [ed] at hr
      rw [List.drop_length] at hL
      simp only [lcL] at hL
      cases hL
      exact .inl ⟨hr, fin x2 a1 a2 a3 a4 s2 ra pF⟩
  | live n =>
    have tot : ∃ accF SF, lcR g c f (wipeD en vs) n m 0 [] S1 = .ok accF SF ∧ Post X.K DRel W1 H1 (ofO (some (newL mu accF SF))) Q (Wish Wx σ) := by
      simp only [lcT] at p1
      cases q : lcR g c f (wipeD en vs) n m 0 [] S1 with
      | ok a b => rw [q] at p1; exact ⟨a, b, rfl, p1⟩
      | ex a b => rw [q] at p1; exact p1.elim
      | no => rw [q] at p1; exact p1.elim
    obtain ⟨accF, SF, hF, pF⟩ := tot
    refine ⟨fun i k H2 => ∃ W2 S2 us acc, Ext X.K W1 H1 W2 H2 ∧ H2 p = some (.lst us) ∧ p ∉ W2.m ∧ ¬ W2.fz p ∧ ¬ W2.rs p ∧ SRel X.K W2 H2 S2 ∧ DRels X.K W2 H2 acc us ∧ lcR g c f (wipeD en vs) n k i acc S2 = .ok accF SF, ⟨m, W1, S1, [], [], ext_more s1 hp0, upd_same, hn1, hz1, hr1, s1.more hp0, DRels.nil, hF⟩, ?_⟩
    rintro i k H2 ⟨W2, S2, us, acc, x2, a1, a2, a3, a4, s2, ra, hL⟩
    have hr := r1 (W2.res p) H2 S2 (x2.trans ext_res) (s2.res a1 a2 a3) i
    cases k with
    | zero => simp only [lcR] at hL; cases hL
    | succ k =>
      unfold lcR at hL
      split at hL
      · rename_i ds hn
        cases cc : ds[i]? with
        | none =>
          have ed : ItD.at S2 i (.live n) = some none := by simp only [ItD.at, hn, cc]
          rw [ed] at hr
          rw [cc] at hL
          cases hL
          exact .inl ⟨hr, fin x2 a1 a2 a3 a4 s2 ra pF⟩
        | some d =>
          have ed : ItD.at S2 i (.live n) = some (some d) := by simp only [ItD.at, hn, cc]
          rw [ed] at hr
          rw [cc] at hL
          obtain ⟨hgo, hy⟩ := hr
          refine .inr ⟨hgo, fun H' => ∃ W2 S2 us acc, Ext X.K W1 H1 W2 H' ∧ H' p = some (.lst us) ∧ p ∉ W2.m ∧ ¬ W2.fz p ∧ ¬ W2.rs p ∧ SRel X.K W2 H' S2 ∧ DRels X.K W2 H' acc us ∧ lcR g c f (wipeD en vs) n k (i + 1) acc S2 = .ok accF SF, fun H' q => ⟨k, Nat.lt_succ_self k, q⟩, ?_⟩
          intro x H3 hx
          obtain ⟨x3, s3, r3⟩ := hy x H3 hx
          cases q : g d (wipeD en vs) S2 with
          | none => simp only [q] at hL; cases hL
          | some pr =>
            obtain ⟨e4, S4⟩ := pr
            have es := hg.keep _ _ _ _ _ q
            subst es
            simp only [q] at hL
            refine item x2 a1 a2 a3 a4 x3 s3 r3 ra q fun σ2 hw2 he2 x3' => ?_
            refine ⟨hw2, lc_turn (K := X.K) (kont := fun a s => lcR g c f (wipeD en vs) n k (i + 1) a s) he2 s3.ofres (((x3.rs p (.inr rfl)).2).trans a1) a2 a3 a4 (ra.ext x3') hL fun acc' us' W' H' S' y1 y2 y3 y4 y5 y6 y7 y8 => ⟨W', S', us', acc', (x2.trans x3').trans y1, y2, y3, y4, y5, y6, y7, y8⟩⟩
      · cases hL
theorem wipe_set {σ : St} {i : Nat} {v : Option V} : wipe (σ.set i v) [i] = wipe σ [i] := by
  show (σ.set i v).set i none = σ.set i none
  rw [List.set_set]
theorem wipe_wipe1 (i : Nat) (σ : St) : wipe (wipe σ [i]) [i] = wipe σ [i] := by
  show ((σ.set i none).set i none) = σ.set i none
  rw [List.set_set]
theorem own_name {K : PySem.W.Frag} (i : Nat) : OwnG K (gName i) [i] (gtName i) := by
  refine ⟨fun d en S e1 S1 h => ?_, fun W H σ en S d v e1 S1 Q he r h k => ?_⟩
  · simp only [gtName] at h; cases h; rfl
  · simp only [gtName] at h; cases h
    exact k _ wipe_set (he.set r)
/-- a pair of names -/
def gtPair (i j : Nat) : FG := fun d en S => match d with
  | .tup [a, b] => some ((en.set i (some a)).set j (some b), S)
  | _ => none
theorem wipe_two {σ : St} {i j : Nat} {v w : Option V} : wipe ((σ.set i v).set j w) [i, j] = wipe σ [i, j] := by
  show ((((σ.set i v).set j w).set j none).set i none) = ((σ.set j none).set i none)
  rw [List.set_set]
  by_cases h : i = j
  · subst h; simp [List.set_set]
  · rw [List.set_comm _ _ h, List.set_set]
theorem wipe_wipe2 (i j : Nat) (σ : St) : wipe (wipe σ [i, j]) [i, j] = wipe σ [i, j] := by
  show (((σ.set j none).set i none).set j none).set i none = (σ.set j none).set i none
  by_cases h : i = j
  · subst h; simp [List.set_set]
  · rw [List.set_comm (i := i) (j := j) none none h, List.set_set, List.set_set]
theorem own_pair {K : PySem.W.Frag} (i j : Nat) : OwnG K (gTup K 2 (gCons (gName i) (gCons (gName j) gNil))) [i, j] (gtPair i j) := by
  refine ⟨fun d en S e1 S1 h => ?_, fun W H σ en S d v e1 S1 Q he r h k => ?_⟩
  · unfold gtPair at h; split at h <;> cases h; rfl
  · unfold gtPair at h
    split at h
    · cases h
      unfold DRel at r
      obtain ⟨a, vs, rfl, h1, h2⟩ := r
      obtain ⟨v1, v2, rfl, h3, h4⟩ := drels2 h2
      exact ⟨a, _, rfl, h1, rfl, v1, _, rfl, v2, _, rfl, rfl, k _ wipe_two ((he.set h3).set h4)⟩
    · cases h
/-- [elt for tg in iter if ..] -/
theorem pf_lc (m : Nat) (mu : Bool) (own : List (Str × Nat)) (hc : X.calm = true) (hN : X.N.Nodup) (hg : OwnG X.K t (own.map (·.2)) g) (hw : ∀ σ : St, wipe (wipe σ (own.map (·.2))) (own.map (·.2)) = wipe σ (own.map (·.2))) (hi : PFI X Wx tg iter fi) (ok : BlkOk X.N X.env.scope scope own)
    (hgp : ∀ (s : Shared) (H : Hp) (C : Addr) (cl : List (Str × Addr)) (fp : List Addr), PG (X.blk s H scope (compEnvC scope cl C X.env) fp) tg t)
    (ht : ∀ (s : Shared) (H : Hp) (C : Addr) (cl : List (Str × Addr)) (fp : List Addr), PFTs (X.blk s H scope (compEnvC scope cl C X.env) fp) ifs c)
    (he : ∀ (s : Shared) (H : Hp) (C : Addr) (cl : List (Str × Addr)) (fp : List Addr), PFE (X.blk s H scope (compEnvC scope cl C X.env) fp) F0 elt f) (hs : ∀ x, foldedSetIterable iter X.env x = pure x := by intro _; rfl) :
    PFE X Wx (.ListComp elt [⟨tg, iter, ifs, 0⟩] scope pos) (fLc m mu (own.map (·.2)) fi g c f) :=
  ⟨fun W H σ en S Q he' hs' hp => PE_w (pe_lc hc hN pi_w ok hgp (fun s H C cl fp => pts_ty (ht s H C cl fp)) (fun s H C cl fp => pe_ty (he s H C cl fp)) hs) (lc_run m mu hg hw hi he' hs' hp)⟩
/-- y = [..] -/
theorem pfs_lc (m : Nat) (mu : Bool) (own : List (Str × Nat)) {i : Nat} {y : Str} {py spos : Pos} (hc : X.calm = true) (hN : X.N.Nodup) (hy : X.N[i]? = some y) (hyl : X.env.scope.names.lookup y = some .local)
    (hsw : swapsWith (.ListComp elt [⟨tg, iter, ifs, 0⟩] scope pos) (some (.Name y py)) spos.line X.env = pure true) (hg : OwnG X.K t (own.map (·.2)) g) (hw : ∀ σ : St, wipe (wipe σ (own.map (·.2))) (own.map (·.2)) = wipe σ (own.map (·.2))) (hi : PFI X Wx tg iter fi) (ok : BlkOk X.N X.env.scope scope own)
    (hgp : ∀ (s : Shared) (H : Hp) (C : Addr) (cl : List (Str × Addr)) (fp : List Addr), PG (X.blk s H scope (compEnvC scope cl C X.env) fp) tg t)
    (ht : ∀ (s : Shared) (H : Hp) (C : Addr) (cl : List (Str × Addr)) (fp : List Addr), PFTs (X.blk s H scope (compEnvC scope cl C X.env) fp) ifs c)
    (he : ∀ (s : Shared) (H : Hp) (C : Addr) (cl : List (Str × Addr)) (fp : List Addr), PFE (X.blk s H scope (compEnvC scope cl C X.env) fp) F0 elt f) (hs : ∀ x, foldedSetIterable iter X.env x = pure x := by intro _; rfl) :
    PFS X Wx (.Assign [.Name y py] (.ListComp elt [⟨tg, iter, ifs, 0⟩] scope pos) spos) (fAsg (fLc m mu (own.map (·.2)) fi g c f) (gtName i)) := by
  refine ⟨fun W H σ en S Z he' hs' hp => PS_w (ps_setLc (tt := tyT X.K c) (te := tyE X.K f) hc hN hy hyl hsw pi_w ok hgp (fun s H C cl fp => pts_ty (ht s H C cl fp)) (fun s H C cl fp => pe_ty (he s H C cl fp)) hs) ?_⟩
  refine lc_run m mu hg hw hi he' hs' (post_then he' hp fun d S1 W1 H1 x e1 s1 r1 p1 => ?_)
  exact p1 W1 H1 _ Ext.refl s1 ((he'.ext e1).set r1)
end comp
end PF

namespace PF
open PySem L2
/-! ### what is closed: no number beyond k -/
mutual
def clD (k : Nat) : D → Prop
  | .tup ds => clDs k ds
  | .lst ds => clDs k ds
  | .ref n => n < k
  | _ => True
def clDs (k : Nat) : List D → Prop
  | [] => True
  | d :: ds => clD k d ∧ clDs k ds
end
def clKs (k : Nat) : List (Key × D) → Prop
  | [] => True
  | (_, d) :: ds => clD k d ∧ clKs k ds
def clFs (k : Nat) : List (Str × D) → Prop
  | [] => True
  | (_, d) :: ds => clD k d ∧ clFs k ds
def clO (k : Nat) : O → Prop
  | .lst ds => clDs k ds
  | .dic kvs => clKs k kvs
  | .ins _ fs => clFs k fs
  | .dead => True
def clS (S : So) : Prop := ∀ o ∈ S, clO S.length o
section clo
variable {K : PySem.W.Frag} {W : Wd} {H : Hp} {S : So} {k : Nat}
mutual
theorem DRel.clo : ∀ {d : D} {v : V}, DRel K W H d v → clD W.m.length d
  | .non, _, _ => trivial
  | .bl _, _, _ => trivial
  | .int _, _, _ => trivial
  | .str _, _, _ => trivial
  | .scr _, _, _ => trivial
  | .tup ds, v, h => by unfold DRel at h; obtain ⟨a, vs, _, _, h⟩ := h; unfold clD; exact DRels.clo h
  | .lst ds, v, h => by unfold DRel at h; obtain ⟨a, vs, _, _, h⟩ := h; unfold clD; exact DRels.clo h
  | .ref n, v, h => by unfold DRel at h; obtain ⟨a, _, h⟩ := h; unfold clD; exact (List.getElem?_eq_some_iff.mp h).1
theorem DRels.clo : ∀ {ds : List D} {vs : List V}, DRels K W H ds vs → clDs W.m.length ds
  | [], _, _ => trivial
  | d :: ds, vs, h => by unfold DRels at h; obtain ⟨v, r, _, h1, h2⟩ := h; unfold clDs; exact ⟨DRel.clo h1, DRels.clo h2⟩
end
theorem KRel.clo : ∀ {ds : List (Key × D)} {vs : List (Key × V)}, KRel K W H ds vs → clKs W.m.length ds
  | [], _, _ => trivial
  | (k, d) :: ds, vs, h => by unfold KRel at h; obtain ⟨v, r, _, h1, h2⟩ := h; exact ⟨DRel.clo h1, KRel.clo h2⟩
theorem FRel.clo : ∀ {ds : List (Str × D)} {vs : List (Str × V)}, FRel K W H ds vs → clFs W.m.length ds
  | [], _, _ => trivial
  | (k, d) :: ds, vs, h => by unfold FRel at h; obtain ⟨v, r, _, h1, h2⟩ := h; exact ⟨DRel.clo h1, FRel.clo h2⟩
theorem SRel.clo (s : SRel K W H S) : clS S := by
  intro o ho
  obtain ⟨n, hn⟩ := List.getElem?_of_mem ho
  obtain ⟨a, h1, h2⟩ := s.at hn
  rw [← s.len]
  cases o with
  | lst ds => obtain ⟨vs, _, h⟩ := h2; exact h.clo
  | dic ds => obtain ⟨vs, _, h⟩ := h2; exact h.clo
  | ins C fs => obtain ⟨dx, vs, _, h⟩ := h2; exact h.clo
  | dead => trivial
/-- the first k objects stay, lists behind them are frozen -/
def Wd.cut (W : Wd) (k : Nat) : Wd := ⟨W.m.take k, fun a => W.fz a ∨ ∃ n : Nat, k ≤ n ∧ W.m[n]? = some a, W.rs⟩
mutual
theorem DRel.cut : ∀ {d : D} {v : V}, DRel K W H d v → clD k d → DRel K (W.cut k) H d v
  | .non, _, h, _ => h
  | .bl _, _, h, _ => h
  | .int _, _, h, _ => h
  | .str _, _, h, _ => h
  | .scr _, _, h, _ => by unfold DRel at h ⊢; exact h
  | .tup ds, v, h, c => by
    unfold DRel at h ⊢; obtain ⟨a, vs, h1, h2, h3⟩ := h
    unfold clD at c
    exact ⟨a, vs, h1, h2, DRels.cut h3 c⟩
  | .lst ds, v, h, c => by
    unfold DRel at h ⊢; obtain ⟨a, vs, h1, h2, h3⟩ := h
    unfold clD at c
    exact ⟨a, vs, h1, ⟨.inl h2.1, h2.2⟩, DRels.cut h3 c⟩
  | .ref n, v, h, c => by
    unfold DRel at h ⊢; obtain ⟨a, h1, h2⟩ := h
    unfold clD at c
    exact ⟨a, h1, by show (W.m.take k)[n]? = _; rw [List.getElem?_take, if_pos c]; exact h2⟩
theorem DRels.cut : ∀ {ds : List D} {vs : List V}, DRels K W H ds vs → clDs k ds → DRels K (W.cut k) H ds vs
  | [], _, h, _ => h
  | d :: ds, vs, h, c => by
    unfold DRels at h ⊢; obtain ⟨v, r, h1, h2, h3⟩ := h
    unfold clDs at c
    exact ⟨v, r, h1, DRel.cut h2 c.1, DRels.cut h3 c.2⟩
end
theorem KRel.cut : ∀ {ds : List (Key × D)} {vs : List (Key × V)}, KRel K W H ds vs → clKs k ds → KRel K (W.cut k) H ds vs
  | [], _, h, _ => h
  | (y, d) :: ds, vs, h, c => by
    unfold KRel at h ⊢; obtain ⟨v, r, h1, h2, h3⟩ := h
    exact ⟨v, r, h1, DRel.cut h2 c.1, KRel.cut h3 c.2⟩
theorem FRel.cut : ∀ {ds : List (Str × D)} {vs : List (Str × V)}, FRel K W H ds vs → clFs k ds → FRel K (W.cut k) H ds vs
  | [], _, h, _ => h
  | (y, d) :: ds, vs, h, c => by
    unfold FRel at h ⊢; obtain ⟨v, r, h1, h2, h3⟩ := h
    exact ⟨v, r, h1, DRel.cut h2 c.1, FRel.cut h3 c.2⟩
theorem SRel.cut (s : SRel K W H S) (h : ∀ o ∈ S.take k, clO k o) : SRel K (W.cut k) H (S.take k) where
  len := by show (W.m.take k).length = _; simp [s.len]
  inj := s.inj.sublist (List.take_sublist _ _)
  dom := fun n a q => by
    have q : (W.m.take k)[n]? = some a := q
    rw [List.getElem?_take] at q
    split at q
    · exact s.dom n a q
    · cases q
  fzd := fun a q => by
    rcases q with q | ⟨n, _, q⟩
    · exact s.fzd a q
    · exact mut_some (s.dom n a q)
  dis := fun n a q f => by
    have q : (W.m.take k)[n]? = some a := q
    rw [List.getElem?_take] at q
    split at q
    · rcases f with f | ⟨n', hn', f⟩
      · exact s.dis n a q f
      · have := (List.getElem_inj s.inj).mp ((List.getElem?_eq_some_iff.mp q).2.trans (List.getElem?_eq_some_iff.mp f).2.symm)
        omega
    · cases q
  rsd := fun a q => ⟨(s.rsd a q).1, fun z => (s.rsd a q).2.1 (List.mem_of_mem_take z), fun f => by
    rcases f with f | ⟨n, _, f⟩
    · exact (s.rsd a q).2.2 f
    · exact (s.rsd a q).2.1 (List.mem_of_getElem? f)⟩
  obj := fun n a o q q' => by
    have q : (W.m.take k)[n]? = some a := q
    have ho := h o (List.mem_of_getElem? q')
    rw [List.getElem?_take] at q q'
    split at q
    · rename_i hn
      rw [if_pos hn] at q'
      have r := s.obj n a o q q'
      cases o with
      | lst ds => obtain ⟨vs, h1, h2⟩ := r; exact ⟨vs, h1, h2.cut ho⟩
      | dic ds => obtain ⟨vs, h1, h2⟩ := r; exact ⟨vs, h1, h2.cut ho⟩
      | ins C fs => obtain ⟨dx, vs, h1, h2⟩ := r; exact ⟨dx, vs, h1, h2.cut ho⟩
      | dead => trivial
    · cases q
mutual
/-- what comes back, new lists frozen -/
inductive Cv (S : So) (k : Nat) : D → D → Prop
  | non : Cv S k .non .non
  | bl (b : Bool) : Cv S k (.bl b) (.bl b)
  | int (i : Int) : Cv S k (.int i) (.int i)
  | str (x : Str) : Cv S k (.str x) (.str x)
  | scr (x : List Int) : Cv S k (.scr x) (.scr x)
  | tup {ds es : List D} : Cvs S k ds es → Cv S k (.tup ds) (.tup es)
  | lst {ds es : List D} : Cvs S k ds es → Cv S k (.lst ds) (.lst es)
  | old {n : Nat} : n < k → Cv S k (.ref n) (.ref n)
  | new {n : Nat} {ds es : List D} : k ≤ n → S[n]? = some (.lst ds) → Cvs S k ds es → Cv S k (.ref n) (.lst es)
inductive Cvs (S : So) (k : Nat) : List D → List D → Prop
  | nil : Cvs S k [] []
  | cons {d e : D} {ds es : List D} : Cv S k d e → Cvs S k ds es → Cvs S k (d :: ds) (e :: es)
end
mutual
theorem Cv.same : ∀ {d : D}, clD k d → Cv S k d d
  | .non, _ => .non
  | .bl b, _ => .bl b
  | .int b, _ => .int b
  | .str b, _ => .str b
  | .scr b, _ => .scr b
  | .tup ds, h => by unfold clD at h; exact .tup (Cvs.same h)
  | .lst ds, h => by unfold clD at h; exact .lst (Cvs.same h)
  | .ref n, h => by unfold clD at h; exact .old h
theorem Cvs.same : ∀ {ds : List D}, clDs k ds → Cvs S k ds ds
  | [], _ => .nil
  | d :: ds, h => by unfold clDs at h; exact .cons (Cv.same h.1) (Cvs.same h.2)
end
theorem cv_rel (s : SRel K W H S) {d e : D} (h : Cv S k d e) : ∀ {v : V}, DRel K W H d v → DRel K (W.cut k) H e v := by
  refine Cv.rec (motive_1 := fun d e _ => ∀ {v : V}, DRel K W H d v → DRel K (W.cut k) H e v) (motive_2 := fun ds es _ => ∀ {vs : List V}, DRels K W H ds vs → DRels K (W.cut k) H es vs) ?_ ?_ ?_ ?_ ?_ ?_ ?_ ?_ ?_ ?_ ?_ h
  · intro v r; exact r
  · intro _ v r; exact r
  · intro _ v r; exact r
  · intro _ v r; exact r
  · intro _ v r; unfold DRel at r ⊢; exact r
  · intro ds es _ ih v r
    unfold DRel at r ⊢; obtain ⟨a, vs, h1, h2, h3⟩ := r
    exact ⟨a, vs, h1, h2, ih h3⟩
  · intro ds es _ ih v r
    unfold DRel at r ⊢; obtain ⟨a, vs, h1, h2, h3⟩ := r
    exact ⟨a, vs, h1, ⟨.inl h2.1, h2.2⟩, ih h3⟩
  · intro n hn v r
    exact DRel.cut r (by unfold clD; exact hn)
  · intro n ds es hn hS _ ih v r
    unfold DRel at r ⊢; obtain ⟨a, h1, h2⟩ := r
    obtain ⟨vs, h3, h4⟩ := s.obj n a _ h2 hS
    exact ⟨a, vs, h1, ⟨.inr ⟨n, hn, h2⟩, h3⟩, ih h4⟩
  · intro vs r; exact r
  · intro d e ds es _ _ ih1 ih2 vs r
    unfold DRels at r ⊢; obtain ⟨v, r', h1, h2, h3⟩ := r
    exact ⟨v, r', h1, ih1 h2, ih2 h3⟩
end clo
/-! ### defs -/
abbrev FN := List D → So → Rs D
def spD (K : PySem.W.Frag) (F : FN) (n : Nat) : Sp := fun vs H Q E => vs.length = n ∧ ∃ W S ds, SRel K W H S ∧ DRels K W H ds vs ∧ Post K DRel W H (F ds S) Q E
def startD (N : List Str) (ds : List D) : En := ds.map some ++ List.replicate (N.length - ds.length) none
theorem start_rel {K : PySem.W.Frag} {W : Wd} {H : Hp} {N : List Str} {ds : List D} {vs : List V} (r : DRels K W H ds vs) : ERel K W H (startD N ds) (L2.start N vs) := by
  unfold startD L2.start
  refine ⟨by simp [r.length], fun i d h => ?_⟩
  by_cases c : i < ds.length
  · rw [List.getElem?_append_left (by simpa using c), List.getElem?_map] at h
    rw [List.getElem?_append_left (by simpa [← r.length] using c), List.getElem?_map]
    cases e : ds[i]? with
    | none => rw [e] at h; cases h
    | some d' =>
      rw [e] at h; cases h
      obtain ⟨v, h1, h2⟩ := r.get e
      exact ⟨v, by rw [h1]; rfl, h2⟩
  · rw [List.getElem?_append_right (by simpa using c), List.getElem?_replicate] at h
    split at h <;> cases h
/-- a body's end gives what the def is worth -/
def RetOk (S : So) (fl : Fl) (r : Rs D) : Prop := match r with
  | .no => True
  | .ok e S2 => S.length ≤ S2.length ∧ (∀ o ∈ S2, clO S2.length o) ∧ (match fl with
    | .rt d S1 => S2 = S1.take S2.length ∧ Cv S1 S2.length d e
    | .nx _ S1 => S2 = S1.take S2.length ∧ e = .non
    | _ => False)
  | .ex C S2 => S.length ≤ S2.length ∧ (∀ o ∈ S2, clO S2.length o) ∧ (match fl with
    | .ex C' _ S1 => C' = C ∧ S2 = S1.take S2.length
    | _ => False)
theorem ext_cut {K : PySem.W.Frag} {W W1 : Wd} {H H1 : Hp} {k : Nat} (x : Ext K W H W1 H1) (h : W.m.length ≤ k) : Ext K W H (W1.cut k) H1 :=
  ⟨⟨fun n a q => by
    show (W1.m.take k)[n]? = _
    rw [List.getElem?_take, if_pos (Nat.lt_of_lt_of_le (List.getElem?_eq_some_iff.mp q).1 h)]
    exact x.m n a q, fun a q => .inl (x.fz a q), x.tup, x.lst, x.scr⟩, x.rs⟩
theorem ret_post {K : PySem.W.Frag} {W : Wd} {H : Hp} {S : So} {fl : Fl} {r : Rs D} {Q : VK} {E : XK} (s : SRel K W H S) (h : RetOk S fl r) (p : Post K DRel W H r Q E) :
    PostS K W H fl { nx := fun _ H' => Q .non H', rt := Q } (fun c d _ H => E c d H) := by
  cases r with
  | no => exact p.elim
  | ok e S2 =>
    obtain ⟨h0, h1, h2⟩ := h
    cases fl with
    | rt d S1 =>
      obtain ⟨h3, h4⟩ := h2
      intro W1 H1 v x s1 r1
      refine p (W1.cut S2.length) H1 v (ext_cut x (by rw [s.len]; exact h0)) ?_ (cv_rel s1 h4 r1)
      have := s1.cut (k := S2.length) (by rw [← h3]; exact h1)
      rw [← h3] at this
      exact this
    | nx e1 S1 =>
      obtain ⟨h3, h4⟩ := h2
      subst h4
      intro W1 H1 σ x s1 r1
      refine p (W1.cut S2.length) H1 .non (ext_cut x (by rw [s.len]; exact h0)) ?_ dnon
      have := s1.cut (k := S2.length) (by rw [← h3]; exact h1)
      rw [← h3] at this
      exact this
    | _ => exact h2.elim
  | ex C S2 =>
    obtain ⟨h0, h1, h2⟩ := h
    cases fl with
    | ex C' e1 S1 =>
      obtain ⟨h3, h4⟩ := h2
      subst h3
      intro W1 H1 σ d x s1 r1
      refine p (W1.cut S2.length) H1 d (ext_cut x (by rw [s.len]; exact h0)) ?_
      have := s1.cut (k := S2.length) (by rw [← h4]; exact h1)
      rw [← h4] at this
      exact this
    | _ => exact h2.elim
section fns
variable {P : Program} {w : World} {K : PySem.W.Frag} {mg : Str → Option Value} {base : Heap}
/-- THE RULE for a def -/
theorem fn_ok {x qual : Str} {st : Stmt} {f : Addr} {fd : FuncData} {N ps : List Str} {k : Nat} {fb : FS} {F : FN} (F0 : Fun K x qual st f fd) (sc : FnScope N ps (defScope st))
    (hb : ∀ (cdv : Value) (A : Around) (outer : List Env) (s : Shared) (H : Hp) (E : XK), Room k (A.deeper (PyProof.Rows.envOfC qual (defScope st) s.heap.objs.size f cdv)) → PFB (cxOf (L2.CX P w) P w K mg base N qual (defScope st) f cdv A outer s H E) (fun c d _ H => E c d H) (defBody st) fb)
    (hF : ∀ ds S, ds.length = ps.length → clS S → clDs S.length ds → RetOk S (fb (startD N ds) S) (F ds S)) : FnOk P w K mg base (L2.CX P w) (k + 1) f fd ps (spD K F ps.length) := by
  refine F0.okX sc (fun vs H Q E h => h.1) (fun cdv A outer s H vs Q E hr h => ?_)
  obtain ⟨hl, W, S, ds, hs, rd, hp⟩ := h
  refine ⟨wSs _ (defBody st), pss_w, ?_⟩
  refine (hb cdv A outer s H E hr).run W H (L2.start N vs) (startD N ds) S _ (start_rel rd) hs ?_
  exact ret_post hs (hF ds S (by rw [rd.length]; exact hl) hs.clo (by have := rd.clo; rw [hs.len] at this; exact this)) hp
end fns
section calls
variable {X : Cx} {Wx : WX} {k n : Nat} {f C : Addr} {fd : FuncData} {ps : List Str} {F : FN} {x m : Str} {p pos apos : Pos} {e o : Expr} {es : List Expr} {fa : FA} {fo : FE}
def fCall (F : FN) (fa : FA) : FE := fun en S => (fa en S).bind fun ds S1 => F ds S1
/-- only n arguments -/
def FN.len (F : FN) (n : Nat) : FN := fun ds S => if ds.length = n then F ds S else .no
theorem pf_call (G : FnOk X.prog X.w X.K X.mg X.base (L2.CX X.prog X.w) k f fd ps (spD X.K F n)) (hr : Room k X.A) (hg : Gl X x) (hm : X.mg x = some (.ref f)) (hk : PySem.W.keepIn X.K (.ref f) = true) (hb : Binds X.K fd ps []) (tk : Takes X Wx)
    (ha : PFA X Wx (e :: es) fa) (hdb : (x == ("__debug__" : Str)) = false := by decide) (he : starEach (e :: es) X.env = (false, eval e X.env) :: starEach es X.env := by rfl) (hpl : (backTo pos (starEach es X.env)).any (·.1) = false := by rfl) :
    PFE X Wx (.Call (.Name x p) (e :: es) [] pos) (fCall (F.len n) fa) := by
  refine ⟨fun W H σ en S Q he' hs hp => PE_w (pe_callS G hr hg hm hk hb (fun σ => passAt tk σ) pa_w hdb he hpl) (ha.run W H σ en S _ he' hs (Post.bind hp fun ds S1 W1 H1 vs e1 s1 r1 p1 => ?_))⟩
  unfold FN.len at p1
  split at p1
  · exact ⟨by rw [← r1.length]; assumption, W1, S1, ds, s1, r1, p1⟩
  · exact p1.elim
/-- a def as its callers see it -/
structure Cal (P : Program) (w : World) (K : PySem.W.Frag) (mg : Str → Option Value) (base : Heap) (x : Str) (ps : List Str) (k : Nat) (F : FN) : Prop where
  ex : ∃ f fd, mg x = some (.ref f) ∧ PySem.W.keepIn K (.ref f) = true ∧ Binds K fd ps [] ∧ FnOk P w K mg base (L2.CX P w) k f fd ps (spD K F ps.length)
theorem pf_callC {j : Nat} (c : Cal X.prog X.w X.K X.mg X.base x ps k F) (hr : Room j X.A) (hj : k ≤ j) (hg : Gl X x) (tk : Takes X Wx)
    (ha : PFA X Wx (e :: es) fa) (hn : ps.length = n := by rfl) (hdb : (x == ("__debug__" : Str)) = false := by decide) (he : starEach (e :: es) X.env = (false, eval e X.env) :: starEach es X.env := by rfl) (hpl : (backTo pos (starEach es X.env)).any (·.1) = false := by rfl) :
    PFE X Wx (.Call (.Name x p) (e :: es) [] pos) (fCall (F.len n) fa) := by
  subst hn
  obtain ⟨f, fd, h1, h2, h3, h4⟩ := c.ex
  exact pf_call h4 (hr.mono hj) hg h1 h2 h3 tk ha hdb he hpl
/-- what the top says of an own error class without an init of its own -/
structure Exc (K : PySem.W.Frag) (mg : Str → Option Value) (x : Str) (C : Addr) : Prop where
  g : mg x = some (.ref C)
  q : PySem.W.excIn K C [.type "ValueError", .type "Exception", .type "BaseException", .type "object"] "ValueError.__new__" = true
  k : PySem.W.keepIn K (.ref C) = true
  b : PySem.W.subIn K (.ref C) (.type "BaseException") = some true
  t : PySem.W.typeIn K (.ref C) = some (.type "type")
/-- raise C('..') -/
def fRaise (C : Addr) : FS := fun en S => .ex C en S
theorem pfs_raise (hc : X.calm = true) (tk : Takes X Wx) (he : PMk X e (fun _ H Q => Q (.ref C) none H)) : PFS X Wx (.Raise (some e) none pos) (fRaise C) :=
  ⟨fun W H σ en S Z he' hs hp => PS_w (ps_raise hc tk he) (hp W H σ none Ext.refl hs he')⟩
theorem pfs_raiseE {m : Str} {j : Nat} {p2 : Pos} (ex : Exc X.K X.mg x C) (hc : X.calm = true) (tk : Takes X Wx) (hg : Gl X x) (hdb : (x == ("__debug__" : Str)) = false := by decide) :
    PFS X Wx (.Raise (some (.Call (.Name x p) [.Constant (.str m) j p2] [] apos)) none pos) (fRaise C) :=
  pfs_raise hc tk (pmk_own PySem.F.excBase_ValueError ex.q ex.g ex.k (raises_own ex.b ex.t) hg hdb)
/-- try: body except C1: suite .. -/
def handle (K : PySem.W.Frag) (C : Addr) : List (Addr × FS) → FS
  | [] => fun en S => .ex C en S
  | (C1, fs) :: r => fun en S => match PySem.W.exmOne K (.ref C) (.ref C1) with
    | some true => fs en S
    | some false => handle K C r en S
    | none => .no
def fTry (K : PySem.W.Frag) (fb : FS) (hds : List (Addr × FS)) : FS := fun en S => match fb en S with
  | .ex C e1 S1 => handle K C hds e1 S1
  | o => o
/-- nothing is raised in a suite -/
def quiet (f : FS) : FS := fun en S => match f en S with
  | .ex _ _ _ => .no
  | o => o
theorem pfb_quiet {X : Cx} {st : List Stmt} {fs : FS} {Wx : WX} (h : PFB X Wx st fs) : PFB X Wx st (quiet fs) := by
  refine ⟨fun W H σ en S Z he hs hp => h.run W H σ en S Z he hs ?_⟩
  unfold quiet at hp
  split at hp
  · exact hp.elim
  · exact hp
/-- the clauses -/
inductive PFH (X : Cx) : List ExceptHandler → List (Addr × FS) → Prop
  | nil : PFH X [] []
  | cons {x : Str} {C : Addr} {fs : FS} {b0 : Stmt} {suite : List Stmt} {np pos' : Pos} {hds : List ExceptHandler} {l : List (Addr × FS)} (hc : Names X x (.ref C))
      (hsu : ∀ (a : Addr) (oe : Obj) (cls : Value) (d : Option Addr) (pn : List (Addr × Obj)), PFB (X.suite a ((a, oe) :: pn)) F0 (b0 :: suite) fs) (r : PFH X hds l) :
      PFH X (.ExceptHandler (some (.Name x np)) none (b0 :: suite) pos' :: hds) ((C, quiet fs) :: l)
def tyS (K : PySem.W.Frag) (fs : FS) (Wx : WX) : TS := fun Z σ H => ∃ W en S, ERel K W H en σ ∧ SRel K W H S ∧ PostS K W H (fs en S) Z Wx
theorem pss_ty {X : Cx} {st : List Stmt} {fs : FS} {Wx : WX} (h : PFB X Wx st fs) : PSs X st (tyS X.K fs Wx) := ⟨fun pins s σ H Z I ⟨W, en, S, he, hs, hp⟩ => h.run W H σ en S Z he hs hp pins s I⟩
theorem pfh_ok {hds : List ExceptHandler} {l : List (Addr × FS)} (h : PFH X hds l) : HdsOk X hds (l.map fun p => (Value.ref p.1, fun _ _ _ => tyS X.K p.2 F0)) := by
  induction h with
  | nil => exact .nil
  | cons hc hsu r ih => exact .cons hc (fun a oe cls d pn _ _ => pss_ty (pfb_quiet (hsu a oe cls d pn))) ih
theorem postS_F0 {K : PySem.W.Frag} {W : Wd} {H : Hp} {fl : Fl} {Z : Ends} {Wx : WX} (h : PostS K W H fl Z Wx) (hn : ∀ C e S, fl ≠ .ex C e S) : PostS K W H fl Z F0 := by
  cases fl with
  | ex C e S => exact (hn C e S rfl).elim
  | _ => exact h
theorem pfh_quiet {hds : List ExceptHandler} {l : List (Addr × FS)} (h : PFH X hds l) : ∀ p ∈ l, ∀ en S C e S1, p.2 en S ≠ .ex C e S1 := by
  induction h with
  | nil => intro p hp; cases hp
  | cons hc hsu r ih =>
    intro p hp en S C e S1
    rcases List.mem_cons.mp hp with rfl | hp
    · intro q
      simp only [quiet] at q
      split at q
      · cases q
      · rename_i hne; exact hne C e S1 q
    · exact ih p hp en S C e S1
theorem pfs_try {body : List Stmt} {fb : FS} {h0 : ExceptHandler} {hds : List ExceptHandler} {l : List (Addr × FS)} (hs : X.stack = X.env :: X.outer) (hf : X.env.frame = some X.env.locals) (tk : Takes X Wx)
    (hb : ∀ (W : WX) (pn : List (Addr × Obj)) (xe : Value → Shared → Prop), Takes (X.tr pn xe) W → PassesOwn (model X.prog X.w) X.A X.env xe → PFB (X.tr pn xe) W body fb) (hh : PFH X (h0 :: hds) l) :
    PFS X Wx (.Try body (h0 :: hds) [] [] pos) (fTry X.K fb l) := by
  refine ⟨fun W H σ en S Z he' hs' hp => PS_w (ps_try_many (tb := fun W => tyS X.K fb W) hs hf tk (fun W pn xe tk' po => pss_ty (hb W pn xe tk' po)) (pfh_ok hh)) ⟨W, en, S, he', hs', ?_⟩⟩
  unfold fTry at hp
  cases q : fb en S with
  | ex C e1 S1 =>
    rw [q] at hp
    simp only at hp
    intro W1 H1 σ1 d x s1 r1
    replace hp := PostS.later hp x
    have hq := pfh_quiet hh
    clear hh q
    induction l with
    | nil => exact hp W1 H1 σ1 d Ext.refl s1 r1
    | cons p l ih =>
      simp only [handle] at hp
      split at hp
      · rename_i hx
        exact ⟨true, hx, fun _ a ha => ⟨W1, e1, S1, r1, s1, postS_F0 hp fun C e S z => hq p List.mem_cons_self _ _ _ _ _ z⟩, fun z => by cases z⟩
      · rename_i hx
        exact ⟨false, hx, fun z => (by cases z), fun _ => ih hp fun p' hp' => hq p' (List.mem_cons_of_mem _ hp')⟩
      · exact hp.elim
  | nx a b => rw [q] at hp; exact hp
  | rt a b => rw [q] at hp; exact hp
  | bk a b => rw [q] at hp; exact hp
  | ct a b => rw [q] at hp; exact hp
  | no => rw [q] at hp; exact hp
end calls
end PF

namespace PF
open PySem L2
/-! ### further tests and comparisons -/
section more
variable {X : Cx} {Wx : WX} {a b c d e : Expr} {fa fb fc fd : FE} {ga gb gc : FT} {pos : Pos}
def fIfT (g : FT) (f h : FT) : FT := fun en S => (g en S).bind fun k S1 => if k = true then f en S1 else h en S1
theorem pft_ifExp (hc : PFT X Wx c gc) (ha : PFT X Wx a ga) (hb : PFT X Wx b gb) : PFT X Wx (.IfExp c a b pos) (fIfT gc ga gb) := by
  refine ⟨fun W H σ en S Q he hs hp pins s I => PyProof.Rows.isTrue_IfExp ?_⟩
  have h1 : wT X c σ H fun k H1 => if k = true then wT X a σ H1 Q else wT X b σ H1 Q := by
    refine hc.run W H σ en S _ he hs (Post.bind hp fun k S1 W1 H1 x e1 s1 r1 p1 => ?_)
    cases r1
    cases k with
    | true => exact iteT (ha.run W1 H1 σ en S1 Q (he.ext e1) s1 p1)
    | false => exact iteF (hb.run W1 H1 σ en S1 Q (he.ext e1) s1 p1)
  refine thn (h1 pins s I) fun k s1 hk => ?_
  obtain ⟨H1, I1, q⟩ := hk
  cases k with
  | true => rw [if_pos rfl] at q ⊢; exact q pins s1 I1
  | false => rw [if_neg Bool.false_ne_true] at q ⊢; exact q pins s1 I1
/-- > of ints and of tuples of ints -/
theorem lexAt_shift {e r : Nat → Bool} {z : Bool} : ∀ (k i : Nat), Ob.lexAt e r z (i + 1) k = Ob.lexAt (fun j => e (j + 1)) (fun j => r (j + 1)) z i k
  | 0, i => rfl
  | k + 1, i => by
    rw [Ob.lexAt_succ, Ob.lexAt_succ, lexAt_shift k (i + 1)]
theorem lexGt_eq : ∀ (ns ms : List Int), Ob.lexAt (fun j => decide (ns.getD j 0 = ms.getD j 0)) (fun j => decide (ms.getD j 0 < ns.getD j 0)) (decide (ns.length > ms.length)) 0 (min ns.length ms.length) = HT.lexLt ms ns
  | [], [] => rfl
  | [], m :: ms => by simp [Ob.lexAt, HT.lexLt]
  | n :: ns, [] => by simp [Ob.lexAt, HT.lexLt]
  | n :: ns, m :: ms => by
    have e1 : min (n :: ns).length (m :: ms).length = min ns.length ms.length + 1 := by simp only [List.length_cons]; omega
    rw [e1, Ob.lexAt_succ, HT.lexLt_cons]
    by_cases h : n = m
    · subst h
      rw [if_pos rfl]
      have ih := lexGt_eq ns ms
      rw [← ih]
      simp only [List.getD_cons_zero, decide_true, if_true]
      rw [lexAt_shift]
      congr 1
      simp only [List.length_cons, gt_iff_lt, Nat.add_lt_add_iff_right]
    · have h' : ¬ m = n := fun q => h q.symm
      rw [if_neg h']
      simp [h]
def rGtT (K : PySem.W.Frag) : R2 := fun x y H Q => ∃ (a b : Addr) (ns ms : List Int), x = .ref a ∧ y = .ref b ∧ SqT K H a (ns.map V.int) ∧ SqT K H b (ms.map V.int) ∧ Q (.bl (HT.lexLt ms ns)) H
theorem op_gtT (hu : X.A.units < cLine) : OpR X (compareOp .Gt) (rGtT X.K) := by
  intro pins s σ H x y v u Q I rx ry ⟨p, q, ns, ms, ex, ey, hp, hq, k⟩
  subst ex; subst ey
  cases rx; cases ry
  obtain ⟨its, r1, p1, _⟩ := I.tuple hp
  obtain ⟨its2, r2, p2, _⟩ := I.tuple hq
  have i1 : PyProof.Rows.IntsAre its ns := Vals.ints r1
  have i2 : PyProof.Rows.IntsAre its2 ms := Vals.ints r2
  have z1 : its.toArray.size = ns.length := List.size_toArray.trans i1.length
  have z2 : its2.toArray.size = ms.length := List.size_toArray.trans i2.length
  have g1 : ∀ j (h : j < its.toArray.size), ∃ t, its.toArray[j] = .int (ns.getD j 0) t := fun j h => PyProof.Rows.IntsAre.int_at i1 _ _ (by simp at h; simp [h])
  have g2 : ∀ j (h : j < its2.toArray.size), ∃ t, its2.toArray[j] = .int (ms.getD j 0) t := fun j h => PyProof.Rows.IntsAre.int_at i2 _ _ (by simp at h; simp [h])
  have R := Ob.RcOp.tuples_gt (A := X.A) (s := s) (e := fun j => decide (ns.getD j 0 = ms.getD j 0)) (r := fun j => decide (ms.getD j 0 < ns.getD j 0)) p1 p2 hu
    (fun j h1 h2 => by
      obtain ⟨t, et⟩ := g1 j h1
      obtain ⟨t', et'⟩ := g2 j h2
      rw [et, et', ← Bool.beq_eq_decide_eq]
      exact SeqAt.EqAt.int_int _ _ _ _)
    (fun j h1 h2 _ => by
      obtain ⟨t, et⟩ := g1 j h1
      obtain ⟨t', et'⟩ := g2 j h2
      rw [et, et']
      exact Ob.RcOp.gt_int _ _ _ _)
  rw [z1, z2, lexGt_eq] at R
  exact R X.prog X.w X.xe (EP X pins σ Q) ⟨.bl _, H, I, rfl, k⟩
def gGtA : G2 := fun a b S => match a, b with
  | .int i, .int j => some (.bl (decide (j < i)), S)
  | .tup xs, .tup ys => match intsOf xs, intsOf ys with
    | some ns, some ms => some (.bl (HT.lexLt ms ns), S)
    | _, _ => none
  | _, _ => none
def rGtA (K : PySem.W.Frag) : R2 := fun x y H Q => rI0 (fun i j => .bl (decide (j < i))) x y H Q ∨ rGtT K x y H Q
theorem op_gtA (hu : X.A.units < cLine) : OpR X (compareOp .Gt) (rGtA X.K) := op_gt.or (op_gtT hu)
theorem opd_gtA {K : PySem.W.Frag} : OpD K (rGtA K) gGtA := by
  intro W H S x y a b Q s ra rb p
  unfold gGtA at p
  split at p
  · unfold DRel at ra rb; exact .inl ⟨_, _, ra, rb, p.here s dbl⟩
  · split at p
    · rename_i h1 h2
      obtain ⟨p1, e1, t1⟩ := tup_ints ra h1
      obtain ⟨p2, e2, t2⟩ := tup_ints rb h2
      exact .inr ⟨p1, p2, _, _, e1, e2, t1, t2, p.here s dbl⟩
    · exact p.elim
  · exact p.elim
theorem opd_imul {K : PySem.W.Frag} : OpD K (rI CMul fun i j => .int (i * j)) (gIc cMul fun i j => i * j) := opd_Ic fun i j h => cMul_ok h
/-- x in a row of flat things -/
def flD : D → Option V
  | .non => some .non
  | .bl b => some (.bl b)
  | .int i => some (.int i)
  | .str x => some (.str x)
  | _ => none
def flDs : List D → Option (List V)
  | [] => some []
  | d :: ds => match flD d, flDs ds with
    | some v, some r => some (v :: r)
    | _, _ => none
theorem flD_rel {K : PySem.W.Frag} {W : Wd} {H : Hp} {d : D} {v u : V} (r : DRel K W H d v) (h : flD d = some u) : v = u ∧ flatV u = true := by
  cases d <;> simp only [flD] at h <;> first | cases h | skip
  all_goals (unfold DRel at r; subst r; exact ⟨rfl, rfl⟩)
theorem flDs_rel {K : PySem.W.Frag} {W : Wd} {H : Hp} : ∀ {ds : List D} {vs us : List V}, DRels K W H ds vs → flDs ds = some us → vs = us ∧ us.all flatV = true
  | [], vs, us, r, h => by unfold DRels at r; subst r; simp only [flDs] at h; cases h; exact ⟨rfl, rfl⟩
  | d :: ds, vs, us, r, h => by
    unfold DRels at r; obtain ⟨v, vr, rfl, h1, h2⟩ := r
    simp only [flDs] at h
    split at h
    · cases h
      obtain ⟨rfl, e2⟩ := flD_rel h1 (by assumption)
      obtain ⟨rfl, e4⟩ := flDs_rel h2 (by assumption)
      exact ⟨rfl, by rw [List.all_cons, e2, e4]; rfl⟩
    · cases h
def inD (S : So) (a b : D) : Option Bool := match flD a, sqOf S b with
  | some x, some ds => match flDs ds with
    | some us => some (inV x us)
    | none => none
  | _, _ => none
def gIn : G2 := fun a b S => match inD S a b with
  | some k => some (.bl k, S)
  | none => none
def gNotIn : G2 := fun a b S => match inD S a b with
  | some k => some (.bl (!k), S)
  | none => none
theorem inD_rel {K : PySem.W.Frag} {W : Wd} {H : Hp} {S : So} {a b : D} {x y : V} {k : Bool} (s : SRel K W H S) (ra : DRel K W H a x) (rb : DRel K W H b y) (h : inD S a b = some k) :
    ∃ p xs, y = .ref p ∧ (SqL K H p xs ∨ SqT K H p xs) ∧ flatV x = true ∧ xs.all flatV = true ∧ inV x xs = k := by
  unfold inD at h
  split at h
  · rename_i u ds h1 h2
    split at h
    · rename_i us h3
      cases h
      obtain ⟨rfl, e1⟩ := flD_rel ra h1
      obtain ⟨p, vs, rfl, h4, h5⟩ := sqOf_rel s rb h2
      obtain ⟨rfl, e2⟩ := flDs_rel h5 h3
      exact ⟨p, vs, rfl, h4, e1, e2, rfl⟩
    · cases h
  · cases h
theorem opd_in {K : PySem.W.Frag} : OpD K (rIn K false) gIn := by
  intro W H S x y a b Q s ra rb p
  unfold gIn at p
  split at p
  · rename_i k hk
    obtain ⟨q, xs, rfl, h1, h2, h3, h4⟩ := inD_rel s ra rb hk
    exact ⟨q, xs, rfl, h1, h2, h3, by rw [if_neg Bool.false_ne_true, h4]; exact p.here s dbl⟩
  · exact p.elim
theorem opd_notin {K : PySem.W.Frag} : OpD K (rIn K true) gNotIn := by
  intro W H S x y a b Q s ra rb p
  unfold gNotIn at p
  split at p
  · rename_i k hk
    obtain ⟨q, xs, rfl, h1, h2, h3, h4⟩ := inD_rel s ra rb hk
    exact ⟨q, xs, rfl, h1, h2, h3, by rw [if_pos rfl, h4]; exact p.here s dbl⟩
  · exact p.elim
/-- a, b, c = x, y, z -/
def fPar3 (i j l : Nat) (fa : FA) : FS := fun en S => fthen en (fa en S) fun ds S1 => match ds with
  | [d1, d2, d3] => .nx (((en.set i (some d1)).set j (some d2)).set l (some d3)) S1
  | _ => .no
theorem pfs_par3 {i j l : Nat} {x y z : Str} {fa : FA} {px py pz pt : Pos} {kt k2 pt2} (hc : X.calm = true) (hN : X.N.Nodup) (hi : X.N[i]? = some x) (hj : X.N[j]? = some y) (hl : X.N[l]? = some z) (hij : i ≠ j) (hil : i ≠ l) (hjl : j ≠ l)
    (hx : X.env.scope.names.lookup x = some .local) (hy : X.env.scope.names.lookup y = some .local) (hz : X.env.scope.names.lookup z = some .local) (ha : PFA X Wx [a, b, c] fa)
    (hw : swappedStores [.Tuple [.Name x px, .Name y py, .Name z pz] kt pt] (.Tuple [a, b, c] k2 pt2) X.env = pure (some [x, y, z]))
    (hs : swapsWithSole [.Tuple [.Name x px, .Name y py, .Name z pz] kt pt] (.Tuple [a, b, c] k2 pt2) pos.line X.env = pure false := by rfl) :
    PFS X Wx (.Assign [.Tuple [.Name x px, .Name y py, .Name z pz] kt pt] (.Tuple [a, b, c] k2 pt2) pos) (fPar3 i j l fa) := by
  refine ⟨fun W H σ en S Z he' hs' hp => PS_w (ps_par3 hc hN hi hj hl hij hil hjl hx hy hz pa_w hw hs) (ha.run W H σ en S _ he' hs' (post_then he' hp fun ds S1 W1 H1 vs e1 s1 r1 p1 => ?_))⟩
  match ds, r1, p1 with
  | [d1, d2, d3], r1, p1 =>
    unfold DRels at r1
    obtain ⟨v1, vr, rfl, q1, r2⟩ := r1
    obtain ⟨v2, v3, rfl, q2, q3⟩ := drels2 r2
    exact ⟨v1, v2, v3, rfl, p1 W1 H1 _ Ext.refl s1 ((((he'.ext e1).set q1).set q2).set q3)⟩
  | [], _, p1 => exact p1.elim
  | [_], _, p1 => exact p1.elim
  | [_, _], _, p1 => exact p1.elim
  | _ :: _ :: _ :: _ :: _, _, p1 => exact p1.elim
/-- list(range(..)), tuple(range(..)) -/
def okRg (a b : Int) : Bool := decide (-(2 ^ 62) ≤ a) && decide (a < 2 ^ 62) && decide (-(2 ^ 62) ≤ b) && decide (b < 2 ^ 62) && decide ((b - a).toNat ≤ 2 ^ 24)
theorem okRg_ok {a b : Int} (h : okRg a b = true) : RgOk a b := by
  simp only [okRg, Bool.and_eq_true, decide_eq_true_eq] at h
  exact ⟨h.1.1.1.1, h.1.1.1.2, h.1.1.2, h.1.2, h.2⟩
theorem rg_rel {K : PySem.W.Frag} {W : Wd} {H : Hp} (lo hi : Int) : DRels K W H (rgD lo (hi - lo).toNat) (rgV lo hi) := by
  have e1 : rgD lo (hi - lo).toNat = ((List.range (hi - lo).toNat).map fun (i : Nat) => lo + (i : Int)).map D.int := by simp [rgD]
  have e2 : rgV lo hi = ((List.range (hi - lo).toNat).map fun (i : Nat) => lo + (i : Int)).map V.int := by simp [rgV]
  rw [e1, e2]
  exact DRels.ints _
def fLstRg1 (mu : Bool) (f : FE) : FE := fun en S => (f en S).bind fun d S1 => match d with
  | .int n => if okRg 0 n = true then ofO (some (newL mu (rgD 0 (n - 0).toNat) S1)) else .no
  | _ => .no
def fTupRg1 (f : FE) : FE := fun en S => (f en S).bind fun d S1 => match d with
  | .int n => if okRg 0 n = true then .ok (.tup (rgD 0 (n - 0).toNat)) S1 else .no
  | _ => .no
theorem pf_lstRg1 (mu : Bool) {p q : Pos} (hc : X.calm = true) (hg : Gl X "list") (hm : X.mg "list" = none) (hg2 : Gl X "range") (hm2 : X.mg "range" = none) (ha : PFE X Wx a fa)
    (na : starEach [a] X.env = (false, eval a X.env) :: starEach [] X.env := by rfl) (nb : starEach [.Call (.Name "range" p) [a] [] pos] X.env = (false, eval (.Call (.Name "range" p) [a] [] pos) X.env) :: starEach [] X.env := by rfl) {pos2 : Pos} :
    PFE X Wx (.Call (.Name "list" q) [.Call (.Name "range" p) [a] [] pos] [] pos2) (fLstRg1 mu fa) := by
  refine ⟨fun W H σ en S Q he hs hp => PE_w (pe_listRg hc hg hm (prg_1 hg2 hm2 pe_w na) nb) (ha.run W H σ en S _ he hs (Post.bind hp fun d S1 W1 H1 v e1 s1 r1 p1 => ?_))⟩
  cases d with
  | int n =>
    unfold DRel at r1
    simp only at p1
    split at p1
    · exact ⟨n, r1, okRg_ok (by assumption), fun q hq => new_list mu s1 (rg_rel 0 n) (postO p1) hq⟩
    · exact p1.elim
  | _ => exact p1.elim
theorem pf_tupRg1 {p q : Pos} (hc : X.calm = true) (hg : Gl X "tuple") (hm : X.mg "tuple" = none) (hg2 : Gl X "range") (hm2 : X.mg "range" = none) (ha : PFE X Wx a fa)
    (na : starEach [a] X.env = (false, eval a X.env) :: starEach [] X.env := by rfl) (nb : starEach [.Call (.Name "range" p) [a] [] pos] X.env = (false, eval (.Call (.Name "range" p) [a] [] pos) X.env) :: starEach [] X.env := by rfl) {pos2 : Pos} :
    PFE X Wx (.Call (.Name "tuple" q) [.Call (.Name "range" p) [a] [] pos] [] pos2) (fTupRg1 fa) := by
  refine ⟨fun W H σ en S Q he hs hp => PE_w (pe_tupRg hc hg hm (prg_1 hg2 hm2 pe_w na) nb) (ha.run W H σ en S _ he hs (Post.bind hp fun d S1 W1 H1 v e1 s1 r1 p1 => ?_))⟩
  cases d with
  | int n =>
    unfold DRel at r1
    simp only at p1
    split at p1
    · exact ⟨n, r1, okRg_ok (by assumption), fun q hq => new_tup s1 (rg_rel 0 n) p1 hq⟩
    · exact p1.elim
  | _ => exact p1.elim
end more
end PF

namespace PF
open PySem L2
/-! ### ends of a def -/
section ends
variable {S J S1 : So} {d e : D} {C : Addr} {en : En}
theorem ret_pure (hc : clS S) (hd : clD S.length d) : RetOk S (.rt d S) (.ok d S) := ⟨Nat.le_refl _, hc, by simp, Cv.same hd⟩
theorem ret_junk (hc : clS S) (hd : clD S.length d) : RetOk S (.rt d (S ++ J)) (.ok d S) := ⟨Nat.le_refl _, hc, by simp, Cv.same hd⟩
theorem ret_conv (hc : clS S) (h : Cv (S ++ J) S.length d e) : RetOk S (.rt d (S ++ J)) (.ok e S) := ⟨Nat.le_refl _, hc, by simp, h⟩
theorem ret_all (hl : S.length ≤ S1.length) (hc : clS S1) (hd : clD S1.length d) : RetOk S (.rt d S1) (.ok d S1) := ⟨hl, hc, by simp, Cv.same hd⟩
theorem ret_next (hc : clS S) : RetOk S (.nx en (S ++ J)) (.ok .non S) := ⟨Nat.le_refl _, hc, by simp, rfl⟩
theorem ret_next0 (hc : clS S) : RetOk S (.nx en S) (.ok .non S) := ⟨Nat.le_refl _, hc, by simp, rfl⟩
theorem ret_ex (hc : clS S) : RetOk S (.ex C en (S ++ J)) (.ex C S) := ⟨Nat.le_refl _, hc, rfl, by simp⟩
theorem ret_ex0 (hc : clS S) : RetOk S (.ex C en S) (.ex C S) := ⟨Nat.le_refl _, hc, rfl, by simp⟩
theorem ret_no {fl : Fl} : RetOk S fl .no := trivial
end ends
/-! ### the equations of the functions, for simp -/
section eqs
variable {α β : Type} {en e1 : En} {S S1 S2 : So} {d : D} {C : Addr}
@[simp] theorem bind_ok (a : α) (S : So) (k : α → So → Rs β) : (Rs.ok a S).bind k = k a S := rfl
@[simp] theorem bind_ex (C : Addr) (S : So) (k : α → So → Rs β) : (Rs.ex C S).bind k = .ex C S := rfl
@[simp] theorem bind_no (k : α → So → Rs β) : (Rs.no).bind k = .no := rfl
@[simp] theorem then_ok (en : En) (a : α) (S : So) (k : α → So → Fl) : fthen en (.ok a S) k = k a S := rfl
@[simp] theorem then_ex (en : En) (C : Addr) (S : So) (k : α → So → Fl) : fthen en (.ex C S) k = .ex C en S := rfl
@[simp] theorem then_no (en : En) (k : α → So → Fl) : fthen en .no k = .no := rfl
@[simp] theorem ofO_some (d : D) (S : So) : ofO (some (d, S)) = .ok d S := rfl
@[simp] theorem ofO_none : ofO none = .no := rfl
@[simp] theorem newL_f (ds : List D) (S : So) : newL false ds S = (.lst ds, S) := rfl
@[simp] theorem newL_t (ds : List D) (S : So) : newL true ds S = (.ref S.length, S ++ [.lst ds]) := rfl
/-- a name's value -/
def valO (o : Option (Option D)) (S : So) : Rs D := match o with
  | some (some d) => .ok d S
  | _ => .no
@[simp] theorem valO_some (d : D) (S : So) : valO (some (some d)) S = .ok d S := rfl
@[simp] theorem fVar_eq (i : Nat) : fVar i en S = valO en[i]? S := rfl
@[simp] theorem fC_eq (d : D) : fC d en S = .ok d S := rfl
@[simp] theorem fOp_eq (g : G2) (fa fb : FE) : fOp g fa fb en S = (fa en S).bind fun a S1 => (fb en S1).bind fun b S2 => ofO (g a b S2) := rfl
@[simp] theorem fTst_eq (f : FE) : fTst f en S = (f en S).bind isB := rfl
@[simp] theorem isB_bl (b : Bool) : isB (.bl b) S = .ok b S := rfl
@[simp] theorem fTru_eq (f : FE) : fTru f en S = (f en S).bind isT := rfl
@[simp] theorem isT_bl (b : Bool) : isT (.bl b) S = .ok b S := rfl
@[simp] theorem isT_int (i : Int) : isT (.int i) S = .ok (i != 0) S := rfl
@[simp] theorem isT_non : isT .non S = .ok false S := rfl
@[simp] theorem fNotT_eq (g : FT) : fNotT g en S = (g en S).bind fun k S1 => .ok (!k) S1 := rfl
@[simp] theorem fAndT_eq (g h : FT) : fAndT g h en S = (g en S).bind fun k S1 => if k = true then h en S1 else .ok false S1 := rfl
@[simp] theorem fOrT_eq (g h : FT) : fOrT g h en S = (g en S).bind fun k S1 => if k = true then .ok true S1 else h en S1 := rfl
/-- the bool of a value -/
def asB (d : D) (k : Bool → Rs α) : Rs α := match d with
  | .bl b => k b
  | _ => .no
@[simp] theorem asB_bl (b : Bool) (k : Bool → Rs α) : asB (.bl b) k = k b := rfl
@[simp] theorem fAndV_eq (f g : FE) : fAndV f g en S = (f en S).bind fun d S1 => asB d fun k => if k = true then g en S1 else .ok (.bl false) S1 := by
  rfl
@[simp] theorem fOrV_eq (f g : FE) : fOrV f g en S = (f en S).bind fun d S1 => asB d fun k => if k = true then .ok (.bl true) S1 else g en S1 := by
  rfl
@[simp] theorem fNotV_eq (f : FE) : fNotV f en S = (f en S).bind fun d S1 => asB d fun k => .ok (.bl (!k)) S1 := by
  rfl
@[simp] theorem fIf_eq (g : FT) (f h : FE) : fIf g f h en S = (g en S).bind fun k S1 => if k = true then f en S1 else h en S1 := rfl
@[simp] theorem fIfT_eq (g : FT) (f h : FT) : fIfT g f h en S = (g en S).bind fun k S1 => if k = true then f en S1 else h en S1 := rfl
@[simp] theorem fChain_eq (g g' : G2) (fa fb fc : FE) : fChain g g' fa fb fc en S = (fa en S).bind fun x S1 => (fb en S1).bind fun y S2 => (ofO (g x y S2)).bind fun z S3 => asB z fun k => if k = true then (fc en S3).bind fun w S4 => ofO (g' y w S4) else .ok (.bl false) S3 := by
  rfl
@[simp] theorem fNil_eq : fNil en S = .ok [] S := rfl
@[simp] theorem fCons_eq (f : FE) (g : FA) : fCons f g en S = (f en S).bind fun d S1 => (g en S1).bind fun ds S2 => .ok (d :: ds) S2 := rfl
@[simp] theorem fTup_eq (g : FA) : fTup g en S = (g en S).bind fun ds S1 => if ds.length ≤ sizeLine then .ok (.tup ds) S1 else .no := rfl
@[simp] theorem fLst_eq (mu : Bool) (g : FA) : fLst mu g en S = (g en S).bind fun ds S1 => if ds.length ≤ sizeLine then ofO (some (newL mu ds S1)) else .no := rfl
@[simp] theorem fCB_eq (g : GA) (fa : FA) : fCB g fa en S = (fa en S).bind fun ds S1 => ofO (g ds S1) := rfl
@[simp] theorem fCall_eq (F : FN) (fa : FA) : fCall F fa en S = (fa en S).bind fun ds S1 => F ds S1 := rfl
@[simp] theorem fLen_eq (F : FN) (n : Nat) (ds : List D) : FN.len F n ds S = if ds.length = n then F ds S else .no := rfl
@[simp] theorem fSl_eq (mu : Bool) (fa : FE) (fl fh : FO) : fSl mu fa fl fh en S = (fa en S).bind fun d S1 => (fl en S1).bind fun lo S2 => (fh en S2).bind fun hi S3 => ofO (gSl mu d lo hi S3) := rfl
@[simp] theorem fNoPart_eq : fNoPart en S = .ok none S := rfl
def asI (d : D) (k : Int → Rs α) : Rs α := match d with
  | .int b => k b
  | _ => .no
@[simp] theorem asI_int (b : Int) (k : Int → Rs α) : asI (.int b) k = k b := rfl
@[simp] theorem fPart_eq (f : FE) : fPart f en S = (f en S).bind fun d S1 => asI d fun i => .ok (some i) S1 := by
  rfl
@[simp] theorem fNeg_eq (f : FE) : fNeg f en S = (f en S).bind fun d S1 => asI d fun i => .ok (.int (-i)) S1 := by
  rfl
@[simp] theorem fBM_eq (T : String) (g : GM) (fo : FE) (fa : FA) : fBM T g fo fa en S = (fo en S).bind fun d S1 => if isTy S1 T d = true then (fa en S1).bind fun ds S2 => ofO (g d ds S2) else .no := rfl
@[simp] theorem fIsi_eq (T : String) (f : FE) : fIsi T f en S = (f en S).bind fun d S1 => match tyN S1 d with
  | some t => match kitB t T with
    | some b => .ok (.bl b) S1
    | none => .no
  | none => .no := rfl
@[simp] theorem kit_ii : kitB "int" "int" = some true := by decide
@[simp] theorem kit_ib : kitB "int" "bool" = some false := by decide
@[simp] theorem kit_bi : kitB "bool" "int" = some true := by decide
@[simp] theorem kit_bb : kitB "bool" "bool" = some true := by decide
@[simp] theorem kit_si : kitB "str" "int" = some false := by decide
@[simp] theorem kit_ni : kitB "NoneType" "int" = some false := by decide
@[simp] theorem kit_ti : kitB "tuple" "int" = some false := by decide
@[simp] theorem tyN_int (i : Int) : tyN S (.int i) = some "int" := rfl
@[simp] theorem tyN_bl (i : Bool) : tyN S (.bl i) = some "bool" := rfl
@[simp] theorem tyN_non : tyN S .non = some "NoneType" := rfl
@[simp] theorem tyN_str (x : Str) : tyN S (.str x) = some "str" := rfl
@[simp] theorem tyN_tup (x : List D) : tyN S (.tup x) = some "tuple" := rfl
@[simp] theorem tyN_lst (x : List D) : tyN S (.lst x) = some "list" := rfl
/-! statements -/
def seqF (r : Fl) (g : FS) : Fl := match r with
  | .nx e S => g e S
  | o => o
@[simp] theorem seq_nx (e : En) (S : So) (g : FS) : seqF (.nx e S) g = g e S := rfl
@[simp] theorem seq_rt (g : FS) : seqF (.rt d S) g = .rt d S := rfl
@[simp] theorem seq_bk (g : FS) : seqF (.bk e1 S) g = .bk e1 S := rfl
@[simp] theorem seq_ct (g : FS) : seqF (.ct e1 S) g = .ct e1 S := rfl
@[simp] theorem seq_ex (g : FS) : seqF (.ex C e1 S) g = .ex C e1 S := rfl
@[simp] theorem fSeq_eq (f g : FS) : fSeq f g en S = seqF (f en S) g := by
  unfold fSeq seqF; cases f en S <;> rfl
@[simp] theorem fNext_eq : fNext en S = .nx en S := rfl
@[simp] theorem fExpr_eq (f : FE) : fExpr f en S = fthen en (f en S) fun _ S1 => .nx en S1 := rfl
@[simp] theorem fRet_eq (f : FE) : fRet f en S = fthen en (f en S) fun d S1 => .rt d S1 := rfl
@[simp] theorem fRetN_eq : fRetN en S = .rt .non S := rfl
@[simp] theorem fBrk_eq : fBrk en S = .bk en S := rfl
@[simp] theorem fCnt_eq : fCnt en S = .ct en S := rfl
@[simp] theorem fIte_eq (c : FT) (f g : FS) : fIte c f g en S = fthen en (c en S) fun k S1 => if k = true then f en S1 else g en S1 := rfl
@[simp] theorem fRaise_eq : fRaise C en S = .ex C en S := rfl
@[simp] theorem flG_some (e : En) (S : So) : flG (some (e, S)) = .nx e S := rfl
@[simp] theorem flG_none : flG none = .no := rfl
@[simp] theorem fAsg_eq (f : FE) (g : FG) : fAsg f g en S = fthen en (f en S) fun d S1 => flG (g d en S1) := rfl
@[simp] theorem gtName_eq (i : Nat) : gtName i d en S = some (en.set i (some d), S) := rfl
@[simp] theorem gtNil_eq : gtNil [] en S = some (en, S) := rfl
@[simp] theorem gtCons_eq (g : FG) (h : FGs) (ds : List D) : gtCons g h (d :: ds) en S = (g d en S).bind fun p => h ds p.1 p.2 := by
  simp only [gtCons]; cases g d en S <;> rfl
@[simp] theorem gtTup_eq (n : Nat) (g : FGs) (ds : List D) : gtTup n g (.tup ds) en S = if ds.length = n then g ds en S else none := rfl
@[simp] theorem gtPair_eq (i j : Nat) (a b : D) : gtPair i j (.tup [a, b]) en S = some ((en.set i (some a)).set j (some b), S) := rfl
@[simp] theorem fPar_eq (i j : Nat) (fa : FA) : fPar i j fa en S = fthen en (fa en S) fun ds S1 => match ds with
  | [d1, d2] => .nx ((en.set i (some d1)).set j (some d2)) S1
  | _ => .no := rfl
@[simp] theorem fPar3_eq (i j l : Nat) (fa : FA) : fPar3 i j l fa en S = fthen en (fa en S) fun ds S1 => match ds with
  | [d1, d2, d3] => .nx (((en.set i (some d1)).set j (some d2)).set l (some d3)) S1
  | _ => .no := rfl
def nxO (en : En) (i : Nat) (r : Option (D × So)) : Fl := match r with
  | some (d, S) => .nx (en.set i (some d)) S
  | none => .no
@[simp] theorem nxO_some (i : Nat) : nxO en i (some (d, S)) = .nx (en.set i (some d)) S := rfl
def augO (o : Option (Option D)) (k : D → Fl) : Fl := match o with
  | some (some x) => k x
  | _ => .no
@[simp] theorem augO_some (k : D → Fl) : augO (some (some d)) k = k d := rfl
@[simp] theorem fAug_eq (i : Nat) (f : FE) (g : G2) : fAug i f g en S = augO en[i]? fun x => fthen en (f en S) fun y S1 => nxO en i (g x y S1) := by
  unfold fAug augO
  cases en[i]? with
  | none => rfl
  | some o => cases o with
    | none => rfl
    | some x => show fthen _ _ _ = fthen _ _ _; congr 1
def subO (r : Rs D) (k : D → So → Option (En × So)) : Option (En × So) := match r with
  | .ok o S => k o S
  | _ => none
@[simp] theorem subO_ok (k : D → So → Option (En × So)) : subO (.ok d S) k = k d S := rfl
@[simp] theorem gtSub_eq (fo fi : FE) (v : D) : gtSub fo fi v en S = subO (fo en S) fun o S1 => subO (fi en S1) fun i S2 => (gSet o i v S2).map fun S3 => (en, S3) := by
  unfold gtSub subO
  cases fo en S with
  | ok o S1 =>
    simp only
    cases fi en S1 with
    | ok i S2 => simp only; cases gSet o i v S2 <;> rfl
    | _ => rfl
  | _ => rfl
@[simp] theorem fTry_eq (K : PySem.W.Frag) (fb : FS) (hds : List (Addr × FS)) : fTry K fb hds en S = match fb en S with
  | .ex C e1 S1 => handle K C hds e1 S1
  | o => o := rfl
@[simp] theorem fFor_eq (m : Nat) (fi : FI) (g : FG) (b : FS) : fFor m fi g b en S = fthen en (fi en S) fun t S1 => match t with
  | .items ds => forL g b ds en S1
  | .live n => forR g b n m 0 en S1 := rfl
@[simp] theorem fiSeq_eq (f : FE) : fiSeq f en S = (f en S).bind fun d S1 => ofI (iterOf S1 d) S1 := rfl
@[simp] theorem ofI_some (t : ItD) : ofI (some t) S = .ok t S := rfl
@[simp] theorem iterOf_lst (ds : List D) : iterOf S (.lst ds) = some (.items ds) := rfl
@[simp] theorem iterOf_tup (ds : List D) : iterOf S (.tup ds) = some (.items ds) := rfl
@[simp] theorem fiRng1_eq (fa : FA) : fiRng1 fa en S = (fa en S).bind fun ds S1 => match ds with
  | [.int j] => if -(2 ^ 62) ≤ j ∧ j < 2 ^ 62 then .ok (.items (rgD 0 j.toNat)) S1 else .no
  | _ => .no := rfl
@[simp] theorem fiRng2_eq (fa : FA) : fiRng2 fa en S = (fa en S).bind fun ds S1 => match ds with
  | [.int i, .int j] => if -(2 ^ 62) ≤ i ∧ i < 2 ^ 62 ∧ -(2 ^ 62) ≤ j ∧ j < 2 ^ 62 then .ok (.items (rgD i (j - i).toNat)) S1 else .no
  | _ => .no := rfl
@[simp] theorem fiEnum_eq (fa : FA) : fiEnum fa en S = (fa en S).bind fun ds S1 => match ds with
  | [.lst xs] => .ok (.items (enumD 0 xs)) S1
  | _ => .no := rfl
@[simp] theorem fLc_eq (m : Nat) (mu : Bool) (vs : List Nat) (fi : FI) (g : FG) (c : FT) (f : FE) : fLc m mu vs fi g c f en S = (fi en S).bind fun t S1 => (noX (lcT m g c f (wipeD en vs) t S1)).bind fun ds S2 => ofO (some (newL mu ds S2)) := rfl
@[simp] theorem noX_ok (ds : List D) : noX (.ok ds S) = .ok ds S := rfl
@[simp] theorem lcT_items (m : Nat) (g : FG) (c : FT) (f : FE) (ds : List D) : lcT m g c f en (.items ds) S = lcL g c f en ds [] S := rfl
@[simp] theorem fYes_eq : fYes en S = .ok true S := rfl
@[simp] theorem wipe_nil : wipeD en [] = en := rfl
@[simp] theorem wipe_cons (v : Nat) (vs : List Nat) : wipeD en (v :: vs) = (wipeD en vs).set v none := rfl
@[simp] theorem fLstRg1_eq (mu : Bool) (f : FE) : fLstRg1 mu f en S = (f en S).bind fun d S1 => asI d fun n => if okRg 0 n = true then ofO (some (newL mu (rgD 0 (n - 0).toNat) S1)) else .no := by
  rfl
@[simp] theorem fTupRg1_eq (f : FE) : fTupRg1 f en S = (f en S).bind fun d S1 => asI d fun n => if okRg 0 n = true then .ok (.tup (rgD 0 (n - 0).toNat)) S1 else .no := by
  rfl
/-! operators -/
@[simp] theorem gAdd_int (mu : Bool) (i j : Int) : gAdd mu (.int i) (.int j) S = some (.int (i + j), S) := rfl
@[simp] theorem gMinus_int (i j : Int) : gMinus (.int i) (.int j) S = some (.int (i - j), S) := rfl
@[simp] theorem gI_int (g : Int → Int → Int) (i j : Int) : gI g (.int i) (.int j) S = some (.int (g i j), S) := rfl
@[simp] theorem gIc_int (c : Int → Int → Bool) (g : Int → Int → Int) (i j : Int) : gIc c g (.int i) (.int j) S = if c i j = true then some (.int (g i j), S) else none := rfl
@[simp] theorem gMul_int (mu : Bool) (i j : Int) : gMul mu (.int i) (.int j) S = if cMul i j = true then some (.int (i * j), S) else none := rfl
@[simp] theorem gFdiv_int (i j : Int) : gFdiv (.int i) (.int j) S = if (decide (0 < j) && decide (j < 1073741824)) = true then some (.int (i / j), S) else none := rfl
@[simp] theorem gMod_int (i j : Int) : gMod (.int i) (.int j) S = if decide (0 < j) = true then some (.int (i % j), S) else none := rfl
@[simp] theorem gPow_int (i j : Int) : gPow (.int i) (.int j) S = if (decide (0 ≤ j) && decide (j ≤ 1000000) && decide (i.natAbs < 2 ^ 64)) = true then some (.int (i ^ j.toNat), S) else none := rfl
@[simp] theorem gLt_int (i j : Int) : gLt (.int i) (.int j) S = some (.bl (decide (i < j)), S) := rfl
@[simp] theorem gLe_int (i j : Int) : gLe (.int i) (.int j) S = some (.bl (decide (i ≤ j)), S) := rfl
@[simp] theorem gGe_int (i j : Int) : gGe (.int i) (.int j) S = some (.bl (decide (j ≤ i)), S) := rfl
@[simp] theorem gGtA_int (i j : Int) : gGtA (.int i) (.int j) S = some (.bl (decide (j < i)), S) := rfl
@[simp] theorem gIs_non (d : D) : gIs d .non S = some (.bl (isNon d), S) := rfl
@[simp] theorem gIsNot_non (d : D) : gIsNot d .non S = some (.bl (!isNon d), S) := rfl
@[simp] theorem gLen_lst (xs : List D) : gLen [.lst xs] S = some (.int xs.length, S) := rfl
@[simp] theorem gLen_tup (xs : List D) : gLen [.tup xs] S = some (.int xs.length, S) := rfl
@[simp] theorem gAbs_int (i : Int) : gAbs [.int i] S = some (.int (if i < 0 then -i else i), S) := rfl
@[simp] theorem gInt_int (i : Int) : gInt [.int i] S = some (.int i, S) := rfl
@[simp] theorem gInt_bl (k : Bool) : gInt [.bl k] S = some (.int (if k then 1 else 0), S) := rfl
@[simp] theorem gMin_2 (i j : Int) : gMin [.int i, .int j] S = some (.int (if j < i then j else i), S) := rfl
@[simp] theorem gMax_2 (i j : Int) : gMax [.int i, .int j] S = some (.int (if j > i then j else i), S) := rfl
@[simp] theorem gMin_ints (ns : List Int) : gMin [.lst (ns.map D.int)] S = if ns = [] then none else some (.int (leastI ns), S) := by
  simp [gMin, lsOf, intsOf_map]
@[simp] theorem gMax_ints (ns : List Int) : gMax [.lst (ns.map D.int)] S = if ns = [] then none else some (.int (mostI ns), S) := by
  simp [gMax, lsOf, intsOf_map]
@[simp] theorem gSum_ints (ns : List Int) : gSum [.lst (ns.map D.int)] S = some (.int ns.sum, S) := by
  simp [gSum, lsOf, intsOf_map]
@[simp] theorem gSorted_ints (mu : Bool) (ns : List Int) : gSorted mu [.lst (ns.map D.int)] S = some (newL mu ((isort ns).map D.int) S) := by
  simp [gSorted, lsOf, intsOf_map]
@[simp] theorem gList_lst (mu : Bool) (xs : List D) : gList mu [.lst xs] S = some (newL mu xs S) := rfl
@[simp] theorem gList_tup (mu : Bool) (xs : List D) : gList mu [.tup xs] S = some (newL mu xs S) := rfl
@[simp] theorem gTuple_lst (xs : List D) : gTuple [.lst xs] S = some (.tup xs, S) := rfl
@[simp] theorem gTuple_tup (xs : List D) : gTuple [.tup xs] S = some (.tup xs, S) := rfl
theorem sizeLine_val : sizeLine = 16777216 := sizeLine_eq
theorem small_le {n : Nat} (h : n ≤ 16777216) : n ≤ sizeLine := by rw [sizeLine_eq]; exact h
theorem small_lt {n : Nat} (h : n < 16777216) : n < sizeLine := by rw [sizeLine_eq]; exact h
@[simp] theorem start_eq (N : List Str) (ds : List D) : startD N ds = ds.map some ++ List.replicate (N.length - ds.length) none := rfl
end eqs
end PF

namespace PF
open PySem L2
/-- the law's start: the script alone -/
theorem law_start {K : PySem.W.Frag} {F : FN} {H : Hp} {a : Addr} {ns : List Int} {m : Nat} (hF : ∀ ns : List Int, ns.length ≤ m → ∃ S, F [.scr ns] [] = .ok (.bl true) S) (hl : ns.length ≤ m) (hO : Only H) (hS : SqL K H a (ns.map V.int)) :
    spD K F 1 [.ref a] H (fun v _ => v = .bl true) fun _ _ _ => False := by
  refine ⟨rfl, ⟨[], fun _ => False, fun _ => False⟩, [], [.scr ns], ?_, ?_, ?_⟩
  · exact ⟨rfl, by simp, fun n a h => by simp at h, fun a h => h.elim, fun n a h => by simp at h, fun a h => h.elim, fun n a o h => by simp at h⟩
  · refine DRels.cons ?_ DRels.nil
    unfold DRel
    refine ⟨a, rfl, ?_⟩
    rcases hS with (h | ⟨o, h⟩) | h
    · rcases hO a with z | ⟨o, xs, z⟩ <;> rw [z] at h <;> cases h
    · exact .inl ⟨o, h⟩
    · exact .inr h
  · obtain ⟨S, h⟩ := hF ns hl
    rw [h]
    intro W' H' v _ _ r
    unfold DRel at r
    exact r
end PF

namespace PF
open PySem L2
section eqs
variable {en : En} {S J : So} {d v : D} {n k : Nat} {o : O}
/-- the list at a place of the store -/
def lstOf : Option O → Option (List D)
  | some (.lst xs) => some xs
  | _ => none
@[simp] theorem lstOf_lst (xs : List D) : lstOf (some (.lst xs)) = some xs := rfl
@[simp] theorem lsOf_ref : lsOf S (.ref n) = lstOf S[n]? := rfl
@[simp] theorem lsOf_lst (xs : List D) : lsOf S (.lst xs) = some xs := rfl
@[simp] theorem sqOf_ref : sqOf S (.ref n) = lstOf S[n]? := lsOf_ref
@[simp] theorem sqOf_lst (xs : List D) : sqOf S (.lst xs) = some xs := rfl
@[simp] theorem sqOf_tup (xs : List D) : sqOf S (.tup xs) = some xs := rfl
theorem atL_ref : atL S (.ref n) = (lstOf S[n]?).map fun xs => (n, xs) := by
  simp only [atL]
  generalize S[n]? = q
  cases q with
  | none => rfl
  | some o => cases o <;> rfl
@[simp] theorem gIx_ref (i : Int) : gIx (.ref n) (.int i) S = (lstOf S[n]?).bind fun xs => (atI xs i).map fun d => (d, S) := by
  simp only [gIx, sqOf_ref]; cases lstOf S[n]? with
  | none => rfl
  | some xs => simp only [Option.bind]; cases atI xs i <;> rfl
@[simp] theorem gIx_lst (xs : List D) (i : Int) : gIx (.lst xs) (.int i) S = (atI xs i).map fun d => (d, S) := by
  simp only [gIx, sqOf_lst]; cases atI xs i <;> rfl
@[simp] theorem gIx_tup (xs : List D) (i : Int) : gIx (.tup xs) (.int i) S = (atI xs i).map fun d => (d, S) := by
  simp only [gIx, sqOf_tup]; cases atI xs i <;> rfl
@[simp] theorem gSet_ref (i : Int) : gSet (.ref n) (.int i) v S = (lstOf S[n]?).bind fun xs => (ixN xs.length i).map fun j => S.set n (.lst (xs.set j v)) := by
  simp only [gSet, atL_ref]; cases lstOf S[n]? with
  | none => rfl
  | some xs => simp only [Option.bind, Option.map]; cases ixN xs.length i <;> rfl
@[simp] theorem gAppend_ref : gAppend (.ref n) [d] S = (lstOf S[n]?).bind fun xs => if xs.length < sizeLine then some (.non, S.set n (.lst (xs ++ [d]))) else none := by
  simp only [gAppend, atL_ref]; cases lstOf S[n]? <;> rfl
@[simp] theorem gPop_ref : gPop (.ref n) [] S = (lstOf S[n]?).bind fun xs => (xs[xs.length - 1]?).map fun y => (y, S.set n (.lst xs.dropLast)) := by
  simp only [gPop, atL_ref]; cases lstOf S[n]? with
  | none => rfl
  | some xs => simp only [Option.bind, Option.map]; cases xs[xs.length - 1]? <;> rfl
@[simp] theorem gPopAt_ref (i : Int) : gPopAt (.ref n) [.int i] S = (lstOf S[n]?).bind fun xs => if -(2 ^ 63) ≤ i ∧ i < 2 ^ 63 then (ixN xs.length i).bind fun j => (xs[j]?).map fun y => (y, S.set n (.lst (xs.eraseIdx j))) else none := by
  simp only [gPopAt, atL_ref]; cases lstOf S[n]? with
  | none => rfl
  | some xs =>
    simp only [Option.bind, Option.map]
    split
    · cases ixN xs.length i with
      | none => rfl
      | some j => simp only; cases xs[j]? <;> rfl
    · rfl
@[simp] theorem gExtend_ref : gExtend (.ref n) [d] S = (lstOf S[n]?).bind fun xs => (lsOf S d).bind fun ys => if xs.length + ys.length ≤ sizeLine then some (.non, S.set n (.lst (xs ++ ys))) else none := by
  simp only [gExtend, atL_ref]; cases lstOf S[n]? with
  | none => rfl
  | some xs => simp only [Option.bind, Option.map]; cases lsOf S d <;> rfl
@[simp] theorem isTy_ref : isTy S "list" (.ref n) = (lstOf S[n]?).isSome := by
  simp only [isTy]
  generalize S[n]? = q
  cases q with
  | none => rfl
  | some o => cases o <;> first | rfl | decide
@[simp] theorem isTy_lst (xs : List D) : isTy S "list" (.lst xs) = true := rfl
/-- how many -/
def lenOf : Option O → Option Int
  | some (.lst xs) => some xs.length
  | some (.dic xs) => some xs.length
  | _ => none
@[simp] theorem lenOf_lst (xs : List D) : lenOf (some (.lst xs)) = some (xs.length : Int) := rfl
@[simp] theorem lenOf_dic (xs : List (Key × D)) : lenOf (some (.dic xs)) = some (xs.length : Int) := rfl
@[simp] theorem gLen_ref : gLen [.ref n] S = (lenOf S[n]?).map fun i => (.int i, S) := by
  simp only [gLen]
  generalize S[n]? = q
  cases q with
  | none => rfl
  | some o => cases o <;> rfl
@[simp] theorem gTuple_ref : gTuple [.ref n] S = (lstOf S[n]?).map fun xs => (.tup xs, S) := by
  simp only [gTuple, sqOf_ref]; cases lstOf S[n]? <;> rfl
@[simp] theorem gList_ref (mu : Bool) : gList mu [.ref n] S = (lstOf S[n]?).map fun xs => newL mu xs S := by
  simp only [gList, sqOf_ref]; cases lstOf S[n]? <;> rfl
/-! places of the store -/
@[simp] theorem get_at0 : (S ++ J)[S.length]? = J[0]? := by simp [List.getElem?_append_right]
@[simp] theorem get_atk (k : Nat) : (S ++ J)[S.length + k]? = J[k]? := by
  rw [List.getElem?_append_right (by omega)]; congr 1; omega
@[simp] theorem set_at0 : (S ++ J).set S.length o = S ++ J.set 0 o := by rw [List.set_append]; simp
@[simp] theorem set_atk (k : Nat) : (S ++ J).set (S.length + k) o = S ++ J.set k o := by
  rw [List.set_append, if_neg (by omega)]; congr 2; omega
/-! == -/
theorem eqD_int (i j : Int) : eqD S (.int i) (.int j) = some (decide (i = j)) := by
  simp only [eqD, pdOf, pd0]
  rw [if_pos ⟨rfl, rfl⟩]
  simp only [PyData.eqv, Bool.beq_eq_decide_eq]
@[simp] theorem gEq_int (i j : Int) : gEq (.int i) (.int j) S = some (.bl (decide (i = j)), S) := by simp only [gEq, eqD_int]
@[simp] theorem gNe_int (i j : Int) : gNe (.int i) (.int j) S = some (.bl (!decide (i = j)), S) := by simp only [gNe, eqD_int]
theorem pds_ints : ∀ ns : List Int, pds (ns.map D.int) = some (ns.map PyData.int)
  | [] => rfl
  | n :: ns => by simp only [List.map_cons, pds, pd0, pds_ints ns]
theorem eqvAll_ints : ∀ ns ms : List Int, PyData.eqvAll (ns.map PyData.int) (ms.map PyData.int) = decide (ns = ms)
  | [], [] => rfl
  | [], m :: ms => by simp [PyData.eqvAll]
  | n :: ns, [] => by simp [PyData.eqvAll]
  | n :: ns, m :: ms => by
    simp only [List.map_cons, PyData.eqvAll, PyData.eqv, eqvAll_ints ns ms, Bool.beq_eq_decide_eq]
    by_cases h : n = m <;> by_cases h2 : ns = ms <;> simp [h, h2]
theorem canLay_ints : ∀ ns : List Int, PyData.canLayAll0 (ns.map PyData.int) = true
  | [] => rfl
  | n :: ns => by simp only [List.map_cons, PyData.canLayAll0, PyData.canLay0, canLay_ints ns, Bool.and_self]
/-! loops -/
theorem while_true {c : FT} {b : FS} {m : Nat} {e2 : En} {S1 S2 : So} (hc : c en S = .ok true S1) (hb : b en S1 = .nx e2 S2) : fWhile c b (m + 1) en S = fWhile c b m e2 S2 := by
  simp only [fWhile, hc, then_ok, if_true, hb]
theorem while_cont {c : FT} {b : FS} {m : Nat} {e2 : En} {S1 S2 : So} (hc : c en S = .ok true S1) (hb : b en S1 = .ct e2 S2) : fWhile c b (m + 1) en S = fWhile c b m e2 S2 := by
  simp only [fWhile, hc, then_ok, if_true, hb]
theorem while_brk {c : FT} {b : FS} {m : Nat} {e2 : En} {S1 S2 : So} (hc : c en S = .ok true S1) (hb : b en S1 = .bk e2 S2) : fWhile c b (m + 1) en S = .nx e2 S2 := by
  simp only [fWhile, hc, then_ok, if_true, hb]
theorem while_ret {c : FT} {b : FS} {m : Nat} {S1 S2 : So} (hc : c en S = .ok true S1) (hb : b en S1 = .rt d S2) : fWhile c b (m + 1) en S = .rt d S2 := by
  simp only [fWhile, hc, then_ok, if_true, hb]
theorem while_ex {c : FT} {b : FS} {m : Nat} {C : Addr} {e2 : En} {S1 S2 : So} (hc : c en S = .ok true S1) (hb : b en S1 = .ex C e2 S2) : fWhile c b (m + 1) en S = .ex C e2 S2 := by
  simp only [fWhile, hc, then_ok, if_true, hb]
theorem while_false {c : FT} {b : FS} {m : Nat} {S1 : So} (hc : c en S = .ok false S1) : fWhile c b (m + 1) en S = .nx en S1 := by
  simp only [fWhile, hc, then_ok, Bool.false_eq_true, if_false]
theorem for_nil {g : FG} {b : FS} : forL g b [] en S = .nx en S := rfl
theorem for_cons {g : FG} {b : FS} {ds : List D} {e1 e2 : En} {S1 S2 : So} (hg : g d en S = some (e1, S1)) (hb : b e1 S1 = .nx e2 S2) : forL g b (d :: ds) en S = forL g b ds e2 S2 := by
  simp only [forL, hg, hb]
theorem for_cont {g : FG} {b : FS} {ds : List D} {e1 e2 : En} {S1 S2 : So} (hg : g d en S = some (e1, S1)) (hb : b e1 S1 = .ct e2 S2) : forL g b (d :: ds) en S = forL g b ds e2 S2 := by
  simp only [forL, hg, hb]
theorem for_ret {g : FG} {b : FS} {ds : List D} {v : D} {e1 : En} {S1 S2 : So} (hg : g d en S = some (e1, S1)) (hb : b e1 S1 = .rt v S2) : forL g b (d :: ds) en S = .rt v S2 := by
  simp only [forL, hg, hb]
theorem for_ex {g : FG} {b : FS} {ds : List D} {C : Addr} {e1 e2 : En} {S1 S2 : So} (hg : g d en S = some (e1, S1)) (hb : b e1 S1 = .ex C e2 S2) : forL g b (d :: ds) en S = .ex C e2 S2 := by
  simp only [forL, hg, hb]
theorem for_brk {g : FG} {b : FS} {ds : List D} {e1 e2 : En} {S1 S2 : So} (hg : g d en S = some (e1, S1)) (hb : b e1 S1 = .bk e2 S2) : forL g b (d :: ds) en S = .nx e2 S2 := by
  simp only [forL, hg, hb]
end eqs
end PF

namespace PF
open PySem L2
/-! ranges whose ends are no numerals: the bounds are looked at once, at a variable -/
section rngs
variable {en : En} {S S1 : So}
theorem rng1_at {fa : FA} {j : Int} {n : Nat} (h : fa en S = .ok [.int j] S1) (hj : j = (n : Int)) (hn : n < 1000000000) : fiRng1 fa en S = .ok (.items (rgD 0 n)) S1 := by
  have hb : (-(2 ^ 62) : Int) ≤ j ∧ j < 2 ^ 62 := by omega
  have ht : j.toNat = n := by omega
  clear hj hn
  rw [fiRng1_eq, h, bind_ok]
  subst ht
  exact if_pos hb
theorem rng2_at {fa : FA} {i j : Int} {n : Nat} (h : fa en S = .ok [.int i, .int j] S1) (hi : -1000000000 ≤ i ∧ i < 1000000000) (hj : -1000000000 ≤ j ∧ j < 1000000000) (hn : (j - i).toNat = n) : fiRng2 fa en S = .ok (.items (rgD i n)) S1 := by
  have hb : (-(2 ^ 62) : Int) ≤ i ∧ i < 2 ^ 62 ∧ -(2 ^ 62) ≤ j ∧ j < 2 ^ 62 := by omega
  clear hi hj
  rw [fiRng2_eq, h, bind_ok]
  subst hn
  exact if_pos hb
theorem lrg_at {f : FE} {j : Int} {n : Nat} {mu : Bool} (h : f en S = .ok (.int j) S1) (hj : j = (n : Int)) (hn : n ≤ 1000000) : fLstRg1 mu f en S = ofO (some (newL mu (rgD 0 n) S1)) := by
  have hb : okRg 0 j = true := by
    simp only [okRg, sizeLine_val, Bool.and_eq_true, decide_eq_true_eq]
    omega
  have ht : (j - 0).toNat = n := by omega
  clear hj hn
  rw [fLstRg1_eq, h, bind_ok, asI_int]
  subst ht
  exact if_pos hb
theorem trg_at {f : FE} {j : Int} {n : Nat} (h : f en S = .ok (.int j) S1) (hj : j = (n : Int)) (hn : n ≤ 1000000) : fTupRg1 f en S = .ok (.tup (rgD 0 n)) S1 := by
  have hb : okRg 0 j = true := by
    simp only [okRg, sizeLine_val, Bool.and_eq_true, decide_eq_true_eq]
    omega
  have ht : (j - 0).toNat = n := by omega
  clear hj hn
  rw [fTupRg1_eq, h, bind_ok, asI_int]
  subst ht
  exact if_pos hb
end rngs
end PF

namespace PF
open PySem L2
/-! == of data at any depth -/
def eqq (a b : D) : Bool := match pd0 a, pd0 b with
  | some x, some y => PyData.eqv x y
  | _, _ => false
def eqqs (a b : List D) : Bool := match pds a, pds b with
  | some x, some y => PyData.eqvAll x y
  | _, _ => false
def gud (n : Nat) (d : D) : Prop := ∃ x, pd0 d = some x ∧ x.canLay0 = true ∧ x.depth ≤ n
def guds (n : Nat) (d : List D) : Prop := ∃ x, pds d = some x ∧ PyData.canLayAll0 x = true ∧ PyData.depthAll x ≤ n
theorem gud.up {n m : Nat} {d : D} (h : gud n d) (l : n ≤ m) : gud m d := by obtain ⟨x, a, b, c⟩ := h; exact ⟨x, a, b, by omega⟩
theorem gud_non (n : Nat) : gud n .non := ⟨_, rfl, rfl, Nat.zero_le _⟩
theorem gud_bl (n : Nat) (b : Bool) : gud n (.bl b) := ⟨_, rfl, rfl, Nat.zero_le _⟩
theorem gud_int (n : Nat) (i : Int) : gud n (.int i) := ⟨_, rfl, rfl, Nat.zero_le _⟩
theorem guds_nil (n : Nat) : guds n [] := ⟨_, rfl, rfl, Nat.zero_le _⟩
theorem guds_cons {n : Nat} {d : D} {ds : List D} (h : gud n d) (k : guds n ds) : guds n (d :: ds) := by
  obtain ⟨x, a, b, c⟩ := h
  obtain ⟨y, e, f, g⟩ := k
  refine ⟨x :: y, by simp only [pds, a, e], by simp only [PyData.canLayAll0, b, f, Bool.and_self], ?_⟩
  simp only [PyData.depthAll]; omega
theorem guds_all {n : Nat} : ∀ {ds : List D}, (∀ d ∈ ds, gud n d) → guds n ds
  | [], _ => guds_nil n
  | d :: ds, h => guds_cons (h d (by simp)) (guds_all fun x hx => h x (by simp [hx]))
theorem gud_tup {n : Nat} {ds : List D} (h : guds n ds) : gud (n + 1) (.tup ds) := by
  obtain ⟨y, e, f, g⟩ := h
  exact ⟨.tuple y, by simp only [pd0, e], by simp only [PyData.canLay0, f], by simp only [PyData.depth]; omega⟩
theorem gud_lst {n : Nat} {ds : List D} (h : guds n ds) : gud (n + 1) (.lst ds) := by
  obtain ⟨y, e, f, g⟩ := h
  exact ⟨.list y, by simp only [pd0, e], by simp only [PyData.canLay0, f], by simp only [PyData.depth]; omega⟩
theorem guds_ints (n : Nat) (ns : List Int) : guds n (ns.map D.int) := guds_all fun d h => by
  obtain ⟨i, _, rfl⟩ := List.mem_map.mp h
  exact gud_int n i
theorem eqq_self {n : Nat} {d : D} (h : gud n d) : eqq d d = true := by
  obtain ⟨x, a, b, _⟩ := h
  simp only [eqq, a]
  exact SeqAt.eqv_refl x b
theorem eqD_gud {n : Nat} {S : So} {a b : D} (h : gud n a) (k : gud n b) (hn : n ≤ 64) : eqD S a b = some (eqq a b) := by
  obtain ⟨x, h1, h2, h3⟩ := h
  obtain ⟨y, k1, k2, k3⟩ := k
  have p1 : pdOf S a = some x := by
    cases a with
    | ref n => simp [pd0] at h1
    | _ => simpa [pdOf] using h1
  have p2 : pdOf S b = some y := by
    cases b with
    | ref n => simp [pd0] at k1
    | _ => simpa [pdOf] using k1
  simp only [eqD, p1, p2, eqq, h1, k1]
  rw [if_pos]
  unfold SeqAt.shaped
  simp only [h2, k2, Bool.true_and, decide_eq_true_eq]
  omega
theorem pdOf_ref {S : So} {n : Nat} {ds : List D} (h : S[n]? = some (.lst ds)) : pdOf S (.ref n) = pdOf S (.lst ds) := by
  simp only [pdOf, h, pd0]
theorem eqD_refl {S : So} {n : Nat} {b : D} {ds : List D} (h : S[n]? = some (.lst ds)) : eqD S (.ref n) b = eqD S (.lst ds) b := by
  simp only [eqD, pdOf_ref h]
theorem eqD_refr {S : So} {n : Nat} {b : D} {ds : List D} (h : S[n]? = some (.lst ds)) : eqD S b (.ref n) = eqD S b (.lst ds) := by
  simp only [eqD, pdOf_ref h]
theorem gEq_gud {n : Nat} {S : So} {a b : D} (h : gud n a) (k : gud n b) (hn : n ≤ 64) : gEq a b S = some (.bl (eqq a b), S) := by
  simp only [gEq, eqD_gud h k hn]
theorem gNe_gud {n : Nat} {S : So} {a b : D} (h : gud n a) (k : gud n b) (hn : n ≤ 64) : gNe a b S = some (.bl (!eqq a b), S) := by
  simp only [gNe, eqD_gud h k hn]
theorem gEq_refl {S : So} {n : Nat} {b : D} {ds : List D} (h : S[n]? = some (.lst ds)) : gEq (.ref n) b S = gEq (.lst ds) b S := by
  simp only [gEq, eqD_refl h]
theorem gEq_refr {S : So} {n : Nat} {b : D} {ds : List D} (h : S[n]? = some (.lst ds)) : gEq b (.ref n) S = gEq b (.lst ds) S := by
  simp only [gEq, eqD_refr h]
theorem gNe_refl {S : So} {n : Nat} {b : D} {ds : List D} (h : S[n]? = some (.lst ds)) : gNe (.ref n) b S = gNe (.lst ds) b S := by
  simp only [gNe, eqD_refl h]
theorem gNe_refr {S : So} {n : Nat} {b : D} {ds : List D} (h : S[n]? = some (.lst ds)) : gNe b (.ref n) S = gNe b (.lst ds) S := by
  simp only [gNe, eqD_refr h]
theorem gNe_self {n : Nat} {S : So} {a : D} (h : gud n a) (hn : n ≤ 64) : gNe a a S = some (.bl false, S) := by
  rw [gNe_gud h h hn, eqq_self h]; rfl
theorem gEq_self {n : Nat} {S : So} {a : D} (h : gud n a) (hn : n ≤ 64) : gEq a a S = some (.bl true, S) := by
  rw [gEq_gud h h hn, eqq_self h]
/-! its value -/
theorem eqq_int (i j : Int) : eqq (.int i) (.int j) = decide (i = j) := by
  simp only [eqq, pd0, PyData.eqv, Bool.beq_eq_decide_eq]
theorem eqq_nn : eqq .non .non = true := rfl
theorem eqq_ni (i : Int) : eqq .non (.int i) = false := by simp only [eqq, pd0, PyData.eqv]
theorem eqq_in (i : Int) : eqq (.int i) .non = false := by simp only [eqq, pd0, PyData.eqv]
theorem eqq_tn (ds : List D) : eqq (.tup ds) .non = false := by
  simp only [eqq, pd0]; cases pds ds <;> simp only [PyData.eqv]
theorem eqq_nt (ds : List D) : eqq .non (.tup ds) = false := by
  simp only [eqq, pd0]; cases pds ds <;> simp only [PyData.eqv]
theorem eqq_tt (xs ys : List D) : eqq (.tup xs) (.tup ys) = eqqs xs ys := by
  simp only [eqq, eqqs, pd0]
  cases pds xs with
  | none => rfl
  | some a => cases pds ys with
    | none => rfl
    | some b => simp only [PyData.eqv]
theorem eqq_ll (xs ys : List D) : eqq (.lst xs) (.lst ys) = eqqs xs ys := by
  simp only [eqq, eqqs, pd0]
  cases pds xs with
  | none => rfl
  | some a => cases pds ys with
    | none => rfl
    | some b => simp only [PyData.eqv]
theorem eqqs_nn : eqqs [] [] = true := rfl
theorem eqqs_cc (x y : D) (xs ys : List D) : eqqs (x :: xs) (y :: ys) = (eqq x y && eqqs xs ys) := by
  simp only [eqq, eqqs, pds]
  cases pd0 x with
  | none => simp
  | some a => cases pd0 y with
    | none => cases pds xs <;> simp
    | some b => cases pds xs with
      | none => simp
      | some c => cases pds ys with
        | none => simp
        | some d => simp only [PyData.eqvAll]
theorem eqqs_ints (ns ms : List Int) : eqqs (ns.map D.int) (ms.map D.int) = decide (ns = ms) := by
  simp only [eqqs, pds_ints, eqvAll_ints]
theorem ne_ints (ns ms : List Int) (S : So) : gNe (.lst (ns.map D.int)) (.lst (ms.map D.int)) S = some (.bl (!decide (ns = ms)), S) := by
  rw [gNe_gud (gud_lst (guds_ints 0 ns)) (gud_lst (guds_ints 0 ms)) (by decide), eqq_ll, eqqs_ints]
theorem eq_ints (ns ms : List Int) (S : So) : gEq (.lst (ns.map D.int)) (.lst (ms.map D.int)) S = some (.bl (decide (ns = ms)), S) := by
  rw [gEq_gud (gud_lst (guds_ints 0 ns)) (gud_lst (guds_ints 0 ms)) (by decide), eqq_ll, eqqs_ints]
/-! ranges and slices -/
theorem rgD_cons (a : Int) (n : Nat) : rgD a (n + 1) = .int a :: rgD (a + 1) n := by
  unfold rgD
  rw [List.range_succ_eq_map]
  simp only [List.map_cons, List.map_map]
  congr 1
  · simp
  · apply List.map_congr_left
    intro i _
    simp only [Function.comp]
    congr 1
    omega
theorem cut_nat (ns : List Int) (a b : Nat) (h : a ≤ b) : cutD (ns.map D.int) (some (a : Int)) (some (b : Int)) = ((ns.drop a).take (b - a)).map D.int := by
  unfold cutD
  rw [HT.sIx_nat, HT.sIx_nat, List.length_map, ← List.map_drop, ← List.map_take]
  congr 1
  by_cases c : a ≤ ns.length
  · rw [Nat.min_eq_left c]
    by_cases c2 : b ≤ ns.length
    · rw [Nat.min_eq_left c2]
    · rw [Nat.min_eq_right (by omega), List.take_of_length_le (by simp), List.take_of_length_le (by simp; omega)]
  · rw [Nat.min_eq_right (by omega), List.drop_of_length_le (by omega), List.drop_of_length_le (by omega)]
    simp
theorem sl_nat (mu : Bool) (ns : List Int) (a b : Nat) (h : a ≤ b) (S : So) : gSl mu (.lst (ns.map D.int)) (some (a : Int)) (some (b : Int)) S = some (newL mu (((ns.drop a).take (b - a)).map D.int) S) := by
  rw [← cut_nat ns a b h]; rfl
/-! + of lists -/
theorem add_lst (mu : Bool) (xs ys : List D) (S : So) (h : xs.length + ys.length ≤ 16777216) : gAdd mu (.lst xs) (.lst ys) S = some (newL mu (xs ++ ys) S) := by
  unfold gAdd
  simp only [lsOf_lst]
  rw [if_pos (small_le h)]
end PF

namespace Law
open PySem L2 PF
def f_is_key : FS :=
  fRet (fAndV (fIsi "int" (fVar 0)) (fAndV (fNotV (fIsi "bool" (fVar 0))) (fChain gLe gLe (fNeg (fC (.int 1000000000))) (fVar 0) (fC (.int 1000000000)))))
def f_check_key (C_BadKey : Addr) (F_is_key : FN) : FS :=
  fIte (fNotT (fTru (fCall (FN.len F_is_key 1) (fCons (fVar 0) (fNil))))) (fRaise C_BadKey) (fNext)
def f__law_dice : FS :=
  fSeq (fIte (fTst (fChain gLt gLt (fOp gMinus (fC (.int 0)) (fC (.int 10))) (fVar 0) (fC (.int 10)))) (fRet (fLst true (fCons (fCB gAbs (fCons (fVar 0) (fNil))) (fCons (fC (.int 0)) (fCons (fC (.int 2)) (fNil)))))) (fNext))
    (fRet (fLst true (fCons (fVar 0) (fCons (fOp (gAdd false) (fC (.int 1)) (fOp gMod (fCB gInt (fCons (fVar 0) (fNil))) (fC (.int 1009)))) (fCons (fCB gInt (fCons (fOp gGe (fVar 0) (fOp gPow (fC (.int 10)) (fC (.int 18)))) (fNil))) (fNil))))))
def f__law_roll : FS :=
  fSeq (fIte (fOrT (fTst (fOp gEq (fOp gIx (fVar 0) (fC (.int 2))) (fC (.int 2)))) (fAndT (fTst (fOp gEq (fOp gIx (fVar 0) (fC (.int 2))) (fC (.int 1)))) (fTst (fOp gGtA (fOp gIx (fVar 0) (fC (.int 0))) (fC (.int 0)))))) (fSeq (fAsg (fOp gMod (fCB gInt (fCons (fOp gIx (fVar 0) (fC (.int 0))) (fNil))) (fVar 1)) (gtName 2))
    (fSeq (fAsg (fOp gFdiv (fOp gIx (fVar 0) (fC (.int 0))) (fVar 1)) (gtSub (fVar 0) (fC (.int 0))))
    (fRet (fVar 2)))) (fNext))
    (fSeq (fAsg (fC (.int 0)) (gtSub (fVar 0) (fC (.int 2))))
    (fSeq (fAsg (fOp gMod (fCB gInt (fCons (fOp (gAdd false) (fOp (gAdd false) (fOp (gMul false) (fOp gIx (fVar 0) (fC (.int 0))) (fC (.int 48271))) (fOp (gMul false) (fOp gIx (fVar 0) (fC (.int 1))) (fC (.int 69621)))) (fC (.int 11))) (fNil))) (fC (.int 2147483647))) (gtSub (fVar 0) (fC (.int 0))))
    (fSeq (fAsg (fOp (gAdd false) (fOp gIx (fVar 0) (fC (.int 1))) (fC (.int 1))) (gtSub (fVar 0) (fC (.int 1))))
    (fRet (fOp gMod (fCB gInt (fCons (fOp (gAdd false) (fOp gFdiv (fOp gIx (fVar 0) (fC (.int 0))) (fC (.int 7))) (fOp gIx (fVar 0) (fC (.int 0)))) (fNil))) (fVar 1))))))
def f__law_rounds (F__law_dice : FN) : FS :=
  fSeq (fAsg (fSl false (fVar 0) (fNoPart) (fPart (fVar 1))) (gtName 2))
    (fSeq (fIte (fTst (fOp gEq (fVar 2) (fLst false (fNil)))) (fAsg (fLst false (fCons (fC (.int 0)) (fNil))) (gtName 2)) (fNext))
    (fRet (fLc 100000 false [3] (fiSeq (fVar 2)) (gtName 3) (fYes) (fCall (FN.len F__law_dice 1) (fCons (fVar 3) (fNil))))))
def f__law_row (F__law_roll : FN) : FS :=
  fRet (fLc 100000 false [3] (fiRng1 (fCons (fCall (FN.len F__law_roll 2) (fCons (fVar 0) (fCons (fOp (gAdd false) (fVar 1) (fC (.int 1))) (fNil)))) (fNil))) (gtName 3) (fYes) (fOp gMinus (fCall (FN.len F__law_roll 2) (fCons (fVar 0) (fCons (fOp (gAdd false) (fOp (gMul false) (fC (.int 2)) (fVar 2)) (fC (.int 1))) (fNil)))) (fVar 2)))
/-! ### keys -/
def F_is_key : FN := fun ds S => match ds with
  | [.int i] => .ok (.bl (decide (-1000000000 ≤ i) && decide (i ≤ 1000000000))) S
  | _ => .no
theorem eq_is_key (ds : List D) (S : So) (hl : ds.length = 1) (hc : clS S) (hd : clDs S.length ds) : RetOk S (f_is_key (startD ["thing"] ds) S) (F_is_key ds S) := by
  unfold F_is_key
  split
  · rename_i i
    have e : f_is_key (startD ["thing"] [.int i]) S = .rt (.bl (decide (-1000000000 ≤ i) && decide (i ≤ 1000000000))) S := by
      simp [f_is_key]
      by_cases h : -1000000000 ≤ i <;> simp [h]
    rw [e]; exact ret_pure hc trivial
  · exact ret_no
def F_check_key (C : Addr) : FN := fun ds S => match ds with
  | [.int i] => if -1000000000 ≤ i ∧ i ≤ 1000000000 then .ok .non S else .ex C S
  | _ => .no
theorem eq_check_key (C : Addr) (ds : List D) (S : So) (hl : ds.length = 1) (hc : clS S) (hd : clDs S.length ds) : RetOk S (f_check_key C F_is_key (startD ["thing"] ds) S) (F_check_key C ds S) := by
  unfold F_check_key
  split
  · rename_i i
    by_cases h : -1000000000 ≤ i ∧ i ≤ 1000000000
    · rw [if_pos h]
      have e : f_check_key C F_is_key (startD ["thing"] [.int i]) S = .nx (startD ["thing"] [.int i]) S := by
        simp [f_check_key, F_is_key, h]
      rw [e]; exact ret_next0 hc
    · rw [if_neg h]
      have e : f_check_key C F_is_key (startD ["thing"] [.int i]) S = .ex C (startD ["thing"] [.int i]) S := by
        have h' : (decide (-1000000000 ≤ i) && decide (i ≤ 1000000000)) = false := by simpa using h
        simp [f_check_key, F_is_key, h']
      rw [e]; exact ret_ex0 hc
  · exact ret_no
/-! ### dice -/
def diceO (c : Int) : O := if -10 < c ∧ c < 10 then .lst [.int (if c < 0 then -c else c), .int 0, .int 2] else .lst [.int c, .int (1 + c % 1009), .int (if 1000000000000000000 ≤ c then 1 else 0)]
def F__law_dice : FN := fun ds S => match ds with
  | [.int c] => .ok (.ref S.length) (S ++ [diceO c])
  | _ => .no
theorem clO_mono {j k : Nat} (h : j ≤ k) {o : O} (ho : clO j o) : clO k o := by
  have hD : ∀ d, clD j d → clD k d := by
    intro d
    refine D.rec (motive_1 := fun d => clD j d → clD k d) (motive_2 := fun ds => clDs j ds → clDs k ds) ?_ ?_ ?_ ?_ ?_ ?_ ?_ ?_ ?_ ?_ d
    · intro _; trivial
    · intro _ _; trivial
    · intro _ _; trivial
    · intro _ _; trivial
    · intro xs ih h; unfold clD at h ⊢; exact ih h
    · intro xs ih h; unfold clD at h ⊢; exact ih h
    · intro n h; unfold clD at h ⊢; omega
    · intro _ _; trivial
    · intro _; trivial
    · intro d ds ih1 ih2 h; unfold clDs at h ⊢; exact ⟨ih1 h.1, ih2 h.2⟩
  have hDs : ∀ ds, clDs j ds → clDs k ds := by
    intro ds
    induction ds with
    | nil => intro _; trivial
    | cons d ds ih => intro h; unfold clDs at h ⊢; exact ⟨hD d h.1, ih h.2⟩
  have hK : ∀ ds, clKs j ds → clKs k ds := by
    intro ds
    induction ds with
    | nil => intro _; trivial
    | cons d ds ih => obtain ⟨x, d⟩ := d; intro h; exact ⟨hD d h.1, ih h.2⟩
  have hF : ∀ ds, clFs j ds → clFs k ds := by
    intro ds
    induction ds with
    | nil => intro _; trivial
    | cons d ds ih => obtain ⟨x, d⟩ := d; intro h; exact ⟨hD d h.1, ih h.2⟩
  cases o with
  | lst ds => exact hDs ds ho
  | dic ds => exact hK ds ho
  | ins C ds => exact hF ds ho
  | dead => trivial
theorem clDs_ints (k : Nat) : ∀ ns : List Int, clDs k (ns.map D.int)
  | [] => trivial
  | n :: ns => by rw [List.map_cons]; unfold clDs; exact ⟨trivial, clDs_ints k ns⟩
theorem clS_append {S : So} (h : clS S) {J : So} (hJ : ∀ o ∈ J, clO (S ++ J).length o) : clS (S ++ J) := by
  intro o ho
  rcases List.mem_append.mp ho with ho | ho
  · exact clO_mono (by simp) (h o ho)
  · exact hJ o ho
theorem clS_set {S : So} (h : clS S) {n : Nat} {o : O} (ho : clO S.length o) : clS (S.set n o) := by
  intro p hp
  rw [List.length_set]
  rcases List.mem_or_eq_of_mem_set hp with hp | rfl
  · exact h p hp
  · exact ho
theorem cl3 (k : Nat) (a b c : Int) : clO k (.lst [.int a, .int b, .int c]) := by
  show clDs k _
  simp [clDs, clD]
theorem clO_dice (k : Nat) (c : Int) : clO k (diceO c) := by
  unfold diceO; split <;> exact cl3 _ _ _ _
theorem eq__law_dice (ds : List D) (S : So) (hl : ds.length = 1) (hc : clS S) (hd : clDs S.length ds) : RetOk S (f__law_dice (startD ["cell"] ds) S) (F__law_dice ds S) := by
  unfold F__law_dice
  split
  · rename_i c
    have e : f__law_dice (startD ["cell"] [.int c]) S = .rt (.ref S.length) (S ++ [diceO c]) := by
      by_cases h : -10 < c ∧ c < 10
      · simp [f__law_dice, diceO, sizeLine_val, h]
      · by_cases h1 : -10 < c
        · have h2 : ¬ c < 10 := fun q => h ⟨h1, q⟩
          simp [f__law_dice, diceO, sizeLine_val, h1, h2]
        · simp [f__law_dice, diceO, sizeLine_val, h1]
    rw [e]
    refine ret_all (by simp) (clS_append hc ?_) (by unfold clD; simp)
    intro o ho
    simp at ho; subst ho
    exact clO_dice _ _
  · exact ret_no
/-- what a roll gives, and what it leaves of the dice -/
def rollN (x y : Int) : Int := (x * 48271 + y * 69621 + 11) % 2147483647
def rollR (x y t many : Int) : Int := if t = 2 ∨ (t = 1 ∧ 0 < x) then x % many else (rollN x y / 7 + rollN x y) % many
def rollO (x y t many : Int) : O := if t = 2 ∨ (t = 1 ∧ 0 < x) then .lst [.int (x / many), .int y, .int t] else .lst [.int (rollN x y), .int (y + 1), .int 0]
def F__law_roll : FN := fun ds S => match ds with
  | [.ref n, .int many] => match S[n]? with
    | some (.lst [.int x, .int y, .int t]) => if 0 < many ∧ many < 1073741824 then .ok (.int (rollR x y t many)) (S.set n (rollO x y t many)) else .no
    | _ => .no
  | _ => .no
theorem atI0 (a : D) (r : List D) : atI (a :: r) 0 = some a := atI_nat (xs := a :: r) (j := 0) rfl
theorem atI1 (a b : D) (r : List D) : atI (a :: b :: r) 1 = some b := atI_nat (xs := a :: b :: r) (j := 1) rfl
theorem atI2 (a b c : D) (r : List D) : atI (a :: b :: c :: r) 2 = some c := atI_nat (xs := a :: b :: c :: r) (j := 2) rfl
theorem eq__law_roll (ds : List D) (S : So) (hl : ds.length = 2) (hc : clS S) (hd : clDs S.length ds) : RetOk S (f__law_roll (startD ["dice", "many", "found"] ds) S) (F__law_roll ds S) := by
  unfold F__law_roll
  split
  · rename_i n many
    split
    · rename_i x y t hS
      split
      · rename_i hm
        have hn : n < S.length := (List.getElem?_eq_some_iff.mp hS).1
        have hg : S[n] = _ := (List.getElem?_eq_some_iff.mp hS).2
        have e : f__law_roll (startD ["dice", "many", "found"] [.ref n, .int many]) S = .rt (.int (rollR x y t many)) (S.set n (rollO x y t many)) := by
          by_cases h2 : t = 2
          · subst h2
            simp [f__law_roll, hn, hg, atI0, atI1, atI2, ixN, hm.1, hm.2, rollR, rollO]
          · by_cases h1 : t = 1
            · subst h1
              by_cases h0 : 0 < x
              · simp [f__law_roll, hn, hg, atI0, atI1, atI2, ixN, hm.1, hm.2, rollR, rollO, h0]
              · simp [f__law_roll, hn, hg, atI0, atI1, atI2, ixN, hm.1, hm.2, rollR, rollO, h0, rollN, cMul]
            · simp [f__law_roll, hn, hg, atI0, atI1, atI2, ixN, hm.1, hm.2, rollR, rollO, h2, h1, rollN, cMul]
        rw [e]
        refine ret_all (by simp) (clS_set hc ?_) trivial
        unfold rollO; split <;> exact cl3 _ _ _ _
      · exact ret_no
    · exact ret_no
  · exact ret_no
/-! the dice as a triple -/
abbrev Dc := Int × Int × Int
def dO (c : Dc) : O := .lst [.int c.1, .int c.2.1, .int c.2.2]
def roll (c : Dc) (m : Int) : Int × Dc := if c.2.2 = 2 ∨ (c.2.2 = 1 ∧ 0 < c.1) then (c.1 % m, (c.1 / m, c.2.1, c.2.2)) else ((rollN c.1 c.2.1 / 7 + rollN c.1 c.2.1) % m, (rollN c.1 c.2.1, c.2.1 + 1, 0))
theorem roll_at {S : So} {n : Nat} {c : Dc} {m : Int} (h : S[n]? = some (dO c)) (h0 : 0 < m) (h1 : m < 1073741824) : F__law_roll [.ref n, .int m] S = .ok (.int (roll c m).1) (S.set n (dO (roll c m).2)) := by
  obtain ⟨x, y, t⟩ := c
  simp only [F__law_roll, h, dO, rollR, rollO, roll]
  rw [if_pos ⟨h0, h1⟩]
  split <;> rfl
theorem roll_lo (c : Dc) {m : Int} (h : 0 < m) : 0 ≤ (roll c m).1 := by
  unfold roll; split <;> exact Int.emod_nonneg _ (by omega)
theorem roll_hi (c : Dc) {m : Int} (h : 0 < m) : (roll c m).1 < m := by
  unfold roll; split <;> exact Int.emod_lt_of_pos _ h
theorem cl_dO (k : Nat) (c : Dc) : clO k (dO c) := cl3 _ _ _ _
def dice0 (c : Int) : Dc := if -10 < c ∧ c < 10 then (if c < 0 then -c else c, 0, 2) else (c, 1 + c % 1009, if 1000000000000000000 ≤ c then 1 else 0)
theorem diceO_eq (c : Int) : diceO c = dO (dice0 c) := by unfold diceO dice0 dO; split <;> rfl
theorem set_same {S : So} {n : Nat} {o : O} (h : S[n]? = some o) : S.set n o = S := by
  apply List.ext_getElem?
  intro i
  by_cases c : n = i
  · subst c; rw [List.getElem?_set_self (List.getElem?_eq_some_iff.mp h).1, h]
  · rw [List.getElem?_set_ne c]
theorem get_set {S : So} {n : Nat} {o p : O} (h : S[n]? = some o) : (S.set n p)[n]? = some p := List.getElem?_set_self (List.getElem?_eq_some_iff.mp h).1
def rolls (c : Dc) (m : Int) : Nat → List Int × Dc
  | 0 => ([], c)
  | k + 1 => ((roll c m).1 :: (rolls (roll c m).2 m k).1, (rolls (roll c m).2 m k).2)
theorem rolls_len (m : Int) : ∀ (k : Nat) (c : Dc), (rolls c m k).1.length = k
  | 0, _ => rfl
  | k + 1, c => by simp only [rolls, List.length_cons, rolls_len m k]
theorem rolls_mem {m : Int} (h : 0 < m) : ∀ (k : Nat) (c : Dc), ∀ x ∈ (rolls c m k).1, 0 ≤ x ∧ x < m
  | 0, _, x, hx => by cases hx
  | k + 1, c, x, hx => by
    simp only [rolls] at hx
    rcases List.mem_cons.mp hx with rfl | hx
    · exact ⟨roll_lo c h, roll_hi c h⟩
    · exact rolls_mem h k _ x hx
/-! the rounds -/
def refsFrom (k : Nat) : Nat → List D
  | 0 => []
  | n + 1 => .ref k :: refsFrom (k + 1) n
theorem refsFrom_len : ∀ (n k : Nat), (refsFrom k n).length = n
  | 0, _ => rfl
  | n + 1, k => by simp only [refsFrom, List.length_cons, refsFrom_len n]
theorem refsFrom_cl : ∀ (n k m : Nat), k + n ≤ m → clDs m (refsFrom k n)
  | 0, _, _, _ => trivial
  | n + 1, k, m, h => by
    simp only [refsFrom]; unfold clDs
    exact ⟨by unfold clD; omega, refsFrom_cl n (k + 1) m (by omega)⟩
def cells (ns : List Int) (m : Int) : List Int := if ns.take m.toNat = [] then [0] else ns.take m.toNat
theorem cells_len (ns : List Int) (m : Int) : (cells ns m).length ≤ max 1 m.toNat := by
  unfold cells; split
  · simp; omega
  · simp; omega
def F__law_rounds : FN := fun ds S => match ds with
  | [.scr ns, .int m] => if 0 ≤ m ∧ m ≤ 1000 then .ok (.lst (refsFrom S.length (cells ns m).length)) (S ++ (cells ns m).map diceO) else .no
  | _ => .no
theorem lc_rounds {en : En} (he : en = [none, none, none, none] ∨ True) (e0 : ∀ d : D, (en.set 3 (some d))[3]? = some (some d)) : ∀ (cs : List Int) (acc : List D) (S : So), acc.length + cs.length < 16777216 →
    lcL (gtName 3) fYes (fCall (FN.len F__law_dice 1) (fCons (fVar 3) (fNil))) en (cs.map D.int) acc S = .ok (acc ++ refsFrom S.length cs.length) (S ++ cs.map diceO)
  | [], acc, S, _ => by simp [lcL, refsFrom]
  | c :: cs, acc, S, h => by
    simp only [List.length_cons] at h
    have ha : acc.length < sizeLine := small_lt (by omega)
    have ih := lc_rounds he e0 cs (acc ++ [.ref S.length]) (S ++ [diceO c]) (by simp; omega)
    simp only [List.map_cons, lcL, gtName_eq, fYes_eq, bind_ok, if_true, fCall_eq, fCons_eq, fNil_eq, fVar_eq, e0, valO_some, fLen_eq, List.length_cons, List.length_nil, F__law_dice, ha]
    rw [ih]
    simp [refsFrom]
theorem cut_take (ns : List Int) (m : Int) (h : 0 ≤ m) : cutD (ns.map D.int) none (some m) = (ns.take m.toNat).map D.int := by
  unfold cutD
  simp only [HT.sIx_none, List.drop_zero, List.length_map]
  have e1 : HT.sIx ns.length ns.length (some m) = min m.toNat ns.length := by simp only [HT.sIx]; rw [if_neg (by omega)]
  rw [e1, Nat.sub_zero, ← List.map_take]
  congr 1
  by_cases c : m.toNat ≤ ns.length
  · rw [Nat.min_eq_left c]
  · rw [Nat.min_eq_right (by omega), List.take_of_length_le (Nat.le_refl _), List.take_of_length_le (by omega)]
theorem eq_nil (S : So) (ns : List Int) : gEq (.lst (ns.map D.int)) (.lst []) S = some (.bl (decide (ns = [])), S) := by
  have h := pds_ints ns
  simp only [gEq, eqD, pdOf, pd0, h, pds]
  have h1 : SeqAt.shaped (.list (ns.map PyData.int)) = true := by
    unfold SeqAt.shaped
    have : PyData.depthAll (ns.map PyData.int) = 0 := by
      induction ns with
      | nil => rfl
      | cons n ns ih => simp only [List.map_cons, PyData.depthAll, PyData.depth, ih (pds_ints ns)]; rfl
    simp only [PyData.canLay0, canLay_ints, PyData.depth, Bool.true_and, decide_eq_true_eq, this]
    decide
  rw [if_pos ⟨h1, rfl⟩]
  simp only [PyData.eqv]
  have := eqvAll_ints ns []
  simp only [List.map_nil] at this
  rw [this]
theorem eq__law_rounds (ds : List D) (S : So) (hl : ds.length = 2) (hc : clS S) (hd : clDs S.length ds) : RetOk S (f__law_rounds F__law_dice (startD ["script", "most", "cells", "cell"] ds) S) (F__law_rounds ds S) := by
  unfold F__law_rounds
  split
  · rename_i ns m
    split
    · rename_i hm
      have e : f__law_rounds F__law_dice (startD ["script", "most", "cells", "cell"] [.scr ns, .int m]) S = .rt (.lst (refsFrom S.length (cells ns m).length)) (S ++ (cells ns m).map diceO) := by
        have hlen : (ns.take m.toNat).length < 16777216 := by simp; omega
        have hcut := cut_take ns m hm.1
        unfold cells
        generalize ns.take m.toNat = cs at hlen hcut
        by_cases h : cs = []
        · subst h
          have := lc_rounds (en := [some (.scr ns), some (.int m), some (.lst [.int 0]), none]) (.inr trivial) (fun d => rfl) [0] [] S (by simp)
          have h0 := eq_nil S []
          simp only [List.map_cons, List.map_nil, List.nil_append] at this hcut h0
          simp [f__law_rounds, gSl, hcut, h0, sizeLine_val, this]
        · have := lc_rounds (en := [some (.scr ns), some (.int m), some (.lst (cs.map D.int)), none]) (.inr trivial) (fun d => rfl) cs [] S (by simpa using hlen)
          simp only [List.nil_append] at this
          simp [f__law_rounds, gSl, hcut, eq_nil, h, sizeLine_val, this]
      rw [e]
      refine ret_all (by simp) (clS_append hc ?_) (by unfold clD; exact refsFrom_cl _ _ _ (by simp))
      intro o ho
      obtain ⟨c, _, rfl⟩ := List.mem_map.mp ho
      exact clO_dice _ _
    · exact ret_no
  · exact ret_no
/-! a drawn row -/
def rowOf (c : Dc) (most wide : Int) : List Int × Dc :=
  ((rolls (roll c (most + 1)).2 (2 * wide + 1) (roll c (most + 1)).1.toNat).1.map (· - wide), (rolls (roll c (most + 1)).2 (2 * wide + 1) (roll c (most + 1)).1.toNat).2)
theorem rowOf_len (c : Dc) {most wide : Int} (h : 0 ≤ most) : ((rowOf c most wide).1.length : Int) ≤ most := by
  simp only [rowOf, List.length_map, rolls_len]
  have := roll_lo c (m := most + 1) (by omega)
  have := roll_hi c (m := most + 1) (by omega)
  omega
theorem rowOf_mem (c : Dc) {most wide : Int} (h : 0 ≤ wide) : ∀ x ∈ (rowOf c most wide).1, -wide ≤ x ∧ x ≤ wide := by
  intro x hx
  simp only [rowOf] at hx
  obtain ⟨y, hy, rfl⟩ := List.mem_map.mp hx
  have := rolls_mem (m := 2 * wide + 1) (by omega) _ _ y hy
  omega
def F__law_row : FN := fun ds S => match ds with
  | [.ref n, .int most, .int wide] => match S[n]? with
    | some (.lst [.int x, .int y, .int t]) => if (0 ≤ most ∧ most ≤ 1000) ∧ 0 ≤ wide ∧ wide ≤ 1000 then .ok (.lst ((rowOf (x, y, t) most wide).1.map D.int)) (S.set n (dO (rowOf (x, y, t) most wide).2)) else .no
    | _ => .no
  | _ => .no
theorem row_at {S : So} {n : Nat} {c : Dc} {most wide : Int} (h : S[n]? = some (dO c)) (h0 : 0 ≤ most ∧ most ≤ 1000) (h1 : 0 ≤ wide ∧ wide ≤ 1000) : F__law_row [.ref n, .int most, .int wide] S = .ok (.lst ((rowOf c most wide).1.map D.int)) (S.set n (dO (rowOf c most wide).2)) := by
  obtain ⟨x, y, t⟩ := c
  simp only [F__law_row, h, dO]
  rw [if_pos ⟨h0, h1⟩]
theorem lc_row {n : Nat} {most wide : Int} (h1 : 0 ≤ wide ∧ wide ≤ 1000) : ∀ (ds : List D) (acc : List D) (S : So) (c : Dc), S[n]? = some (dO c) → acc.length + ds.length < 16777216 →
    lcL (gtName 3) fYes (fOp gMinus (fCall (FN.len F__law_roll 2) (fCons (fVar 0) (fCons (fOp (gAdd false) (fOp (gMul false) (fC (.int 2)) (fVar 2)) (fC (.int 1))) (fNil)))) (fVar 2)) [some (.ref n), some (.int most), some (.int wide), none] ds acc S
      = .ok (acc ++ ((rolls c (2 * wide + 1) ds.length).1.map (· - wide)).map D.int) (S.set n (dO (rolls c (2 * wide + 1) ds.length).2))
  | [], acc, S, c, hS, _ => by simp [lcL, rolls, set_same hS]
  | d :: ds, acc, S, c, hS, h => by
    simp only [List.length_cons] at h
    have ha : acc.length < sizeLine := small_lt (by omega)
    have ih := lc_row (most := most) h1 ds (acc ++ [.int ((roll c (2 * wide + 1)).1 - wide)]) (S.set n (dO (roll c (2 * wide + 1)).2)) (roll c (2 * wide + 1)).2 (get_set hS) (by simp; omega)
    have hr := roll_at (m := 2 * wide + 1) hS (by omega) (by omega)
    simp [lcL, hr, cMul, ha, ih, rolls]
theorem rgD_len (lo : Int) (n : Nat) : (rgD lo n).length = n := by simp [rgD]
theorem eq__law_row (ds : List D) (S : So) (hl : ds.length = 3) (hc : clS S) (hd : clDs S.length ds) : RetOk S (f__law_row F__law_roll (startD ["dice", "most", "wide", "k"] ds) S) (F__law_row ds S) := by
  unfold F__law_row
  split
  · rename_i n most wide
    split
    · rename_i x y t hS
      split
      · rename_i hm
        have hS' : S[n]? = some (dO (x, y, t)) := hS
        have e : f__law_row F__law_roll (startD ["dice", "most", "wide", "k"] [.ref n, .int most, .int wide]) S = .rt (.lst ((rowOf (x, y, t) most wide).1.map D.int)) (S.set n (dO (rowOf (x, y, t) most wide).2)) := by
          have hr := roll_at (m := most + 1) hS' (by omega) (by omega)
          have b0 := roll_lo (x, y, t) (m := most + 1) (by omega)
          have b1 := roll_hi (x, y, t) (m := most + 1) (by omega)
          have hl := lc_row (n := n) (most := most) (wide := wide) hm.2 (rgD 0 (roll (x, y, t) (most + 1)).1.toNat) [] (S.set n (dO (roll (x, y, t) (most + 1)).2)) (roll (x, y, t) (most + 1)).2 (get_set hS') (by rw [rgD_len]; simp; omega)
          rw [rgD_len] at hl
          have b2 : -4611686018427387904 ≤ (roll (x, y, t) (most + 1)).1 ∧ (roll (x, y, t) (most + 1)).1 < 4611686018427387904 := by omega
          simp [f__law_row, hr, b2, hl, rowOf]
        rw [e]
        exact ret_all (by simp) (clS_set hc (cl_dO _ _)) (by unfold clD; exact clDs_ints _ _)
      · exact ret_no
    · exact ret_no
  · exact ret_no

end Law

namespace Law
open PySem L2 PF
def topS (i : Nat) : Stmt := PySem.Challenge.pw_heapyard_k16_windows_and_blocks.main.body.getD i (.Pass ⟨0, 0, 0, 0⟩)
abbrev s_is_key : Stmt := topS 6
theorem sc_is_key : FnScope ["thing"] ["thing"] (defScope s_is_key) :=
  ⟨rfl, rfl, rfl, by decide +kernel, rfl, by decide +kernel, by decide +kernel⟩
structure T_is_key (K : PySem.W.Frag) (mg : Str → Option Value) : Prop where
  b_bool : mg "bool" = none
  b_int : mg "int" = none
  b_isinstance : mg "isinstance" = none
  c_FAR : ∃ t, mg "FAR" = some (.int 1000000000 t)
set_option maxHeartbeats 4000000 in
theorem d_is_key {P : Program} {w : World} {K : PySem.W.Frag} {mg : Str → Option Value} {base : Heap} {f : Addr} {cdv : Value} {A : Around} {outer : List Env} {s : Shared} {H : Hp} {E : XK} {k : Nat} (T : T_is_key K mg)
    (hr : Room k (A.deeper (PyProof.Rows.envOfC "is_key" (defScope s_is_key) s.heap.objs.size f cdv))) :
    PFB (cxOf (L2.CX P w) P w K mg base ["thing"] "is_key" (defScope s_is_key) f cdv A outer s H E) (fun c d _ H => E c d H) (defBody s_is_key) (f_is_key) :=
  pfb_one (pfs_ret (pf_and (pf_isi (pf_var 0) (by rfl) T.b_isinstance (by rfl) T.b_int) (pf_and (pf_not (pf_isi (pf_var 0) (by rfl) T.b_isinstance (by rfl) T.b_bool)) (pf_one (pf_chain op_le opd_le op_le opd_le (pf_neg (pf_glob (i := 1000000000) (by rfl) (T.c_FAR).choose_spec ⟨_, rfl⟩)) (pf_var 0) (pf_glob (i := 1000000000) (by rfl) (T.c_FAR).choose_spec ⟨_, rfl⟩))))))
abbrev s_check_key : Stmt := topS 7
theorem sc_check_key : FnScope ["thing"] ["thing"] (defScope s_check_key) :=
  ⟨rfl, rfl, rfl, by decide +kernel, rfl, by decide +kernel, by decide +kernel⟩
structure T_check_key (K : PySem.W.Frag) (mg : Str → Option Value) (C_BadKey : Addr) : Prop where
  e_BadKey : Exc K mg "BadKey" C_BadKey
set_option maxHeartbeats 4000000 in
theorem d_check_key {P : Program} {w : World} {K : PySem.W.Frag} {mg : Str → Option Value} {base : Heap} {f : Addr} {cdv : Value} {A : Around} {outer : List Env} {s : Shared} {H : Hp} {E : XK} {k : Nat} {C_BadKey : Addr} {F_is_key : FN} {k_is_key : Nat} (T : T_check_key K mg C_BadKey)
    (c_is_key : Cal P w K mg base "is_key" ["thing"] k_is_key F_is_key) (l_is_key : k_is_key ≤ k)
    (hr : Room k (A.deeper (PyProof.Rows.envOfC "check_key" (defScope s_check_key) s.heap.objs.size f cdv))) :
    PFB (cxOf (L2.CX P w) P w K mg base ["thing"] "check_key" (defScope s_check_key) f cdv A outer s H E) (fun c d _ H => E c d H) (defBody s_check_key) (f_check_key C_BadKey F_is_key) :=
  pfb_one (pfs_if (pft_not (pft_tru (pf_callC c_is_key hr l_is_key (by rfl) (takes_of rfl rfl rfl rfl) (pfa_cons (pf_var 0) (pfa_nil))))) (pfb_one (pfs_raiseE T.e_BadKey rfl (takes_of rfl rfl rfl rfl) (by rfl))) (pfb_nil))
abbrev s_windows : Stmt := topS 9
theorem sc_windows : FnScope ["row", "wide", "greatest", "held", "found", "k", "one"] ["row", "wide", "greatest"] (defScope s_windows) :=
  ⟨rfl, rfl, rfl, by decide +kernel, rfl, by decide +kernel, by decide +kernel⟩
def f_windows_c2 (C_BadDeed : Addr) (F_check_key : FN) : FT :=
  fAndT (fTst (fOp gNe (fVar 3) (fLst false (fNil)))) (fIfT (fTru (fVar 2)) (fTst (fOp gLe (fOp gIx (fVar 0) (fOp gIx (fVar 3) (fNeg (fC (.int 1))))) (fVar 6))) (fTst (fOp gGe (fOp gIx (fVar 0) (fOp gIx (fVar 3) (fNeg (fC (.int 1))))) (fVar 6))))
def f_windows_b2 (C_BadDeed : Addr) (F_check_key : FN) : FS :=
  fExpr (fBM "list" gPop (fVar 3) fNil)
def f_windows_b1 (C_BadDeed : Addr) (F_check_key : FN) : FS :=
  fSeq (fExpr (fCall (FN.len F_check_key 1) (fCons (fVar 6) (fNil))))
    (fSeq (fWhile (f_windows_c2 C_BadDeed F_check_key) (f_windows_b2 C_BadDeed F_check_key) 100000)
    (fSeq (fExpr (fBM "list" gAppend (fVar 3) (fCons (fVar 5) (fNil))))
    (fSeq (fIte (fTst (fOp gLe (fOp gIx (fVar 3) (fC (.int 0))) (fOp gMinus (fVar 5) (fVar 1)))) (fExpr (fBM "list" gPopAt (fVar 3) (fCons (fC (.int 0)) (fNil)))) (fNext))
    (fIte (fTst (fOp gGe (fVar 5) (fOp gMinus (fVar 1) (fC (.int 1))))) (fExpr (fBM "list" gAppend (fVar 4) (fCons (fOp gIx (fVar 0) (fOp gIx (fVar 3) (fC (.int 0)))) (fNil)))) (fNext)))))
def f_windows (C_BadDeed : Addr) (F_check_key : FN) : FS :=
  fSeq (fIte (fTst (fOp gLt (fVar 1) (fC (.int 1)))) (fRaise C_BadDeed) (fNext))
    (fSeq (fPar 3 4 (fCons (fLst true (fNil)) (fCons (fLst true (fNil)) (fNil))))
    (fSeq (fFor 100000 (fiEnum (fCons (fVar 0) (fNil))) (gtTup 2 (gtCons (gtName 5) (gtCons (gtName 6) (gtNil)))) (f_windows_b1 C_BadDeed F_check_key))
    (fRet (fCB gTuple (fCons (fVar 4) (fNil))))))
structure T_windows (K : PySem.W.Frag) (mg : Str → Option Value) (C_BadDeed : Addr) : Prop where
  b_enumerate : mg "enumerate" = none
  b_tuple : mg "tuple" = none
  e_BadDeed : Exc K mg "BadDeed" C_BadDeed
set_option maxHeartbeats 4000000 in
theorem d_windows {P : Program} {w : World} {K : PySem.W.Frag} {mg : Str → Option Value} {base : Heap} {f : Addr} {cdv : Value} {A : Around} {outer : List Env} {s : Shared} {H : Hp} {E : XK} {k : Nat} {C_BadDeed : Addr} {F_check_key : FN} {k_check_key : Nat} (T : T_windows K mg C_BadDeed)
    (c_check_key : Cal P w K mg base "check_key" ["thing"] k_check_key F_check_key) (l_check_key : k_check_key ≤ k)
    (hr : Room k (A.deeper (PyProof.Rows.envOfC "windows" (defScope s_windows) s.heap.objs.size f cdv))) :
    PFB (cxOf (L2.CX P w) P w K mg base ["row", "wide", "greatest", "held", "found", "k", "one"] "windows" (defScope s_windows) f cdv A outer s H E) (fun c d _ H => E c d H) (defBody s_windows) (f_windows C_BadDeed F_check_key) :=
  pfb_cons (pfs_if (pft_cmp (op_ltA hr.units0) opd_lt (pf_var 1) (pf_int) (nomark _)) (pfb_one (pfs_raiseE T.e_BadDeed rfl (takes_of rfl rfl rfl rfl) (by rfl))) (pfb_nil))
    (pfb_cons (pfs_par (i := 3) (j := 4) rfl sc_windows.nd rfl rfl (by decide) rfl rfl (pfa_cons (pf_lst true (pfa_nil)) (pfa_cons (pf_lst true (pfa_nil)) (pfa_nil))) (by rfl))
    (pfb_cons (pfs_for 100000 (passes_of rfl) rfl (pfi_enum (by rfl) T.b_enumerate (pfa_cons (pf_var 0) (pfa_nil))) (pfg_tup rfl (pfgs_cons (pfg_name (i := 5) sc_windows.nd rfl (Or.inl rfl)) (pfgs_cons (pfg_name (i := 6) sc_windows.nd rfl (Or.inl rfl)) (pfgs_nil)))) (pfb_cons (pfs_expr (pf_callC c_check_key hr l_check_key (by rfl) (takes_of rfl rfl rfl rfl) (pfa_cons (pf_var 6) (pfa_nil))))
    (pfb_cons (pfs_while 100000 (passes_of rfl) (pft_w (pfw_and (pft_cmp (op_neD hr.units) opd_ne (pf_var 3) (pf_lst false (pfa_nil)) (nomark _)) (pfw_and1 (pft_ifExp (pft_tru (pf_var 2)) (pft_cmp op_le opd_le (pf_ix (pf_var 0) (pf_ix (pf_var 3) (pf_neg (pf_int)))) (pf_var 6) (nomark _)) (pft_cmp op_ge opd_ge (pf_ix (pf_var 0) (pf_ix (pf_var 3) (pf_neg (pf_int)))) (pf_var 6) (nomark _)))))) (pfb_one (pfs_expr (pf_bm0 PySem.F.plainAttrs_list PySem.F.slot_list_pop PySem.F.type_list_pop mt_pop md_pop (pf_var 3)))))
    (pfb_cons (pfs_expr (pf_bm PySem.F.plainAttrs_list PySem.F.slot_list_append PySem.F.type_list_append mt_append md_append (pf_var 3) (pfa_cons (pf_var 5) (pfa_nil))))
    (pfb_cons (pfs_if (pft_cmp op_le opd_le (pf_ix (pf_var 3) (pf_int)) (pf_op op_sub opd_sub (pf_var 5) (pf_var 1)) (nomark _)) (pfb_one (pfs_expr (pf_bm PySem.F.plainAttrs_list PySem.F.slot_list_pop PySem.F.type_list_pop mt_popAt md_popAt (pf_var 3) (pfa_cons (pf_int) (pfa_nil))))) (pfb_nil))
    (pfb_one (pfs_if (pft_cmp op_ge opd_ge (pf_var 5) (pf_op op_sub opd_sub (pf_var 1) (pf_int)) (nomark _)) (pfb_one (pfs_expr (pf_bm PySem.F.plainAttrs_list PySem.F.slot_list_append PySem.F.type_list_append mt_append md_append (pf_var 4) (pfa_cons (pf_ix (pf_var 0) (pf_ix (pf_var 3) (pf_int))) (pfa_nil))))) (pfb_nil))))))))
    (pfb_one (pfs_ret (pf_callTy call_tuple_of cd_tuple (by rfl) T.b_tuple (pfa_cons (pf_var 4) (pfa_nil)))))))
abbrev s_next_greater : Stmt := topS 10
theorem sc_next_greater : FnScope ["row", "found", "waiting", "k", "one"] ["row"] (defScope s_next_greater) :=
  ⟨rfl, rfl, rfl, by decide +kernel, rfl, by decide +kernel, by decide +kernel⟩
def f_next_greater_c2 : FT :=
  fAndT (fTst (fOp gNe (fVar 2) (fLst false (fNil)))) (fTst (fOp gLt (fOp gIx (fVar 0) (fOp gIx (fVar 2) (fNeg (fC (.int 1))))) (fVar 4)))
def f_next_greater_b2 : FS :=
  fAsg (fVar 3) (gtSub (fVar 1) (fBM "list" gPop (fVar 2) fNil))
def f_next_greater_b1 : FS :=
  fSeq (fWhile (f_next_greater_c2) (f_next_greater_b2) 100000)
    (fExpr (fBM "list" gAppend (fVar 2) (fCons (fVar 3) (fNil))))
def f_next_greater : FS :=
  fSeq (fPar 1 2 (fCons (fOp (gMul true) (fLst false (fCons (fC .non) (fNil))) (fCB gLen (fCons (fVar 0) (fNil)))) (fCons (fLst true (fNil)) (fNil))))
    (fSeq (fFor 100000 (fiEnum (fCons (fVar 0) (fNil))) (gtTup 2 (gtCons (gtName 3) (gtCons (gtName 4) (gtNil)))) (f_next_greater_b1))
    (fRet (fCB gTuple (fCons (fVar 1) (fNil)))))
structure T_next_greater (K : PySem.W.Frag) (mg : Str → Option Value) : Prop where
  b_enumerate : mg "enumerate" = none
  b_len : mg "len" = none
  b_tuple : mg "tuple" = none
set_option maxHeartbeats 4000000 in
theorem d_next_greater {P : Program} {w : World} {K : PySem.W.Frag} {mg : Str → Option Value} {base : Heap} {f : Addr} {cdv : Value} {A : Around} {outer : List Env} {s : Shared} {H : Hp} {E : XK} {k : Nat} (T : T_next_greater K mg)
    (hr : Room k (A.deeper (PyProof.Rows.envOfC "next_greater" (defScope s_next_greater) s.heap.objs.size f cdv))) :
    PFB (cxOf (L2.CX P w) P w K mg base ["row", "found", "waiting", "k", "one"] "next_greater" (defScope s_next_greater) f cdv A outer s H E) (fun c d _ H => E c d H) (defBody s_next_greater) (f_next_greater) :=
  pfb_cons (pfs_par (i := 1) (j := 2) rfl sc_next_greater.nd rfl rfl (by decide) rfl rfl (pfa_cons (pf_op op_mulA (opd_mul true) (pf_lst false (pfa_cons (pf_non) (pfa_nil))) (pf_callB call_lenA cd_len (by rfl) T.b_len (pfa_cons (pf_var 0) (pfa_nil)))) (pfa_cons (pf_lst true (pfa_nil)) (pfa_nil))) (by rfl))
    (pfb_cons (pfs_for 100000 (passes_of rfl) rfl (pfi_enum (by rfl) T.b_enumerate (pfa_cons (pf_var 0) (pfa_nil))) (pfg_tup rfl (pfgs_cons (pfg_name (i := 3) sc_next_greater.nd rfl (Or.inl rfl)) (pfgs_cons (pfg_name (i := 4) sc_next_greater.nd rfl (Or.inl rfl)) (pfgs_nil)))) (pfb_cons (pfs_while 100000 (passes_of rfl) (pft_w (pfw_and (pft_cmp (op_neD hr.units) opd_ne (pf_var 2) (pf_lst false (pfa_nil)) (nomark _)) (pfw_and1 (pft_cmp (op_ltA hr.units0) opd_lt (pf_ix (pf_var 0) (pf_ix (pf_var 2) (pf_neg (pf_int)))) (pf_var 4) (nomark _))))) (pfb_one (pfs_asg (pf_var 3) (pfg_sub (Wx := F0) (pf_var 1) (pf_bm0 PySem.F.plainAttrs_list PySem.F.slot_list_pop PySem.F.type_list_pop mt_pop md_pop (pf_var 2))))))
    (pfb_one (pfs_expr (pf_bm PySem.F.plainAttrs_list PySem.F.slot_list_append PySem.F.type_list_append mt_append md_append (pf_var 2) (pfa_cons (pf_var 3) (pfa_nil)))))))
    (pfb_one (pfs_ret (pf_callTy call_tuple_of cd_tuple (by rfl) T.b_tuple (pfa_cons (pf_var 1) (pfa_nil))))))
abbrev s_widest : Stmt := topS 11
theorem sc_widest : FnScope ["heights", "best", "waiting", "k", "height", "high", "first", "here"] ["heights"] (defScope s_widest) :=
  ⟨rfl, rfl, rfl, by decide +kernel, rfl, by decide +kernel, by decide +kernel⟩
def f_widest_c2 : FT :=
  fAndT (fTst (fOp gNe (fVar 2) (fLst false (fNil)))) (fTst (fOp gGe (fOp gIx (fVar 0) (fOp gIx (fVar 2) (fNeg (fC (.int 1))))) (fVar 4)))
def f_widest_b2 : FS :=
  fSeq (fAsg (fOp gIx (fVar 0) (fBM "list" gPop (fVar 2) fNil)) (gtName 5))
    (fSeq (fAsg (fIf (fTst (fOp gNe (fVar 2) (fLst false (fNil)))) (fOp (gAdd false) (fOp gIx (fVar 2) (fNeg (fC (.int 1)))) (fC (.int 1))) (fC (.int 0))) (gtName 6))
    (fSeq (fAsg (fTup (fCons (fOp (gMul false) (fVar 5) (fOp gMinus (fVar 3) (fVar 6))) (fCons (fVar 6) (fCons (fVar 3) (fNil))))) (gtName 7))
    (fIte (fOrT (fTst (fOp gGtA (fOp gIx (fVar 7) (fC (.int 0))) (fOp gIx (fVar 1) (fC (.int 0))))) (fAndT (fTst (fOp gEq (fOp gIx (fVar 7) (fC (.int 0))) (fOp gIx (fVar 1) (fC (.int 0))))) (fAndT (fTst (fOp gLt (fSl false (fVar 7) (fPart (fC (.int 1))) (fNoPart)) (fSl false (fVar 1) (fPart (fC (.int 1))) (fNoPart)))) (fTst (fOp gGtA (fOp gIx (fVar 7) (fC (.int 0))) (fC (.int 0))))))) (fAsg (fVar 7) (gtName 1)) (fNext))))
def f_widest_b1 : FS :=
  fSeq (fAsg (fIf (fTst (fOp gLt (fVar 3) (fCB gLen (fCons (fVar 0) (fNil))))) (fOp gIx (fVar 0) (fVar 3)) (fNeg (fC (.int 1)))) (gtName 4))
    (fSeq (fWhile (f_widest_c2) (f_widest_b2) 100000)
    (fExpr (fBM "list" gAppend (fVar 2) (fCons (fVar 3) (fNil)))))
def f_widest : FS :=
  fSeq (fPar 1 2 (fCons (fTup (fCons (fC (.int 0)) (fCons (fC (.int 0)) (fCons (fC (.int 0)) (fNil))))) (fCons (fLst true (fNil)) (fNil))))
    (fSeq (fFor 100000 (fiRng1 (fCons (fOp (gAdd false) (fCB gLen (fCons (fVar 0) (fNil))) (fC (.int 1))) (fNil))) (gtName 3) (f_widest_b1))
    (fRet (fVar 1)))
structure T_widest (K : PySem.W.Frag) (mg : Str → Option Value) : Prop where
  b_len : mg "len" = none
  b_range : mg "range" = none
set_option maxHeartbeats 4000000 in
theorem d_widest {P : Program} {w : World} {K : PySem.W.Frag} {mg : Str → Option Value} {base : Heap} {f : Addr} {cdv : Value} {A : Around} {outer : List Env} {s : Shared} {H : Hp} {E : XK} {k : Nat} (T : T_widest K mg)
    (hr : Room k (A.deeper (PyProof.Rows.envOfC "widest" (defScope s_widest) s.heap.objs.size f cdv))) :
    PFB (cxOf (L2.CX P w) P w K mg base ["heights", "best", "waiting", "k", "height", "high", "first", "here"] "widest" (defScope s_widest) f cdv A outer s H E) (fun c d _ H => E c d H) (defBody s_widest) (f_widest) :=
  pfb_cons (pfs_par (i := 1) (j := 2) rfl sc_widest.nd rfl rfl (by decide) rfl rfl (pfa_cons (pf_tup (pfa_cons (pf_int) (pfa_cons (pf_int) (pfa_cons (pf_int) (pfa_nil))))) (pfa_cons (pf_lst true (pfa_nil)) (pfa_nil))) (by rfl))
    (pfb_cons (pfs_for 100000 (passes_of rfl) rfl (pfi_range1 (by rfl) T.b_range (pfa_cons (pf_op op_addA (opd_add false) (pf_callB call_lenA cd_len (by rfl) T.b_len (pfa_cons (pf_var 0) (pfa_nil))) (pf_int)) (pfa_nil))) (pfg_name (i := 3) sc_widest.nd rfl (Or.inl rfl)) (pfb_cons (pfs_set (i := 4) sc_widest.nd rfl (Or.inl rfl) (pf_ifExp (pft_cmp (op_ltA hr.units0) opd_lt (pf_var 3) (pf_callB call_lenA cd_len (by rfl) T.b_len (pfa_cons (pf_var 0) (pfa_nil))) (nomark _)) (pf_ix (pf_var 0) (pf_var 3)) (pf_neg (pf_int))))
    (pfb_cons (pfs_while 100000 (passes_of rfl) (pft_w (pfw_and (pft_cmp (op_neD hr.units) opd_ne (pf_var 2) (pf_lst false (pfa_nil)) (nomark _)) (pfw_and1 (pft_cmp op_ge opd_ge (pf_ix (pf_var 0) (pf_ix (pf_var 2) (pf_neg (pf_int)))) (pf_var 4) (nomark _))))) (pfb_cons (pfs_set (i := 5) sc_widest.nd rfl (Or.inl rfl) (pf_ix (pf_var 0) (pf_bm0 PySem.F.plainAttrs_list PySem.F.slot_list_pop PySem.F.type_list_pop mt_pop md_pop (pf_var 2))))
    (pfb_cons (pfs_set (i := 6) sc_widest.nd rfl (Or.inl rfl) (pf_ifExp (pft_cmp (op_neD hr.units) opd_ne (pf_var 2) (pf_lst false (pfa_nil)) (nomark _)) (pf_op op_addA (opd_add false) (pf_ix (pf_var 2) (pf_neg (pf_int))) (pf_int)) (pf_int)))
    (pfb_cons (pfs_set (i := 7) sc_widest.nd rfl (Or.inl rfl) (pf_tup (pfa_cons (pf_op op_mulA (opd_mul false) (pf_var 5) (pf_op op_sub opd_sub (pf_var 3) (pf_var 6))) (pfa_cons (pf_var 6) (pfa_cons (pf_var 3) (pfa_nil))))))
    (pfb_one (pfs_if (pft_w (pfw_or (pft_cmp (op_gtA hr.units0) opd_gtA (pf_ix (pf_var 7) (pf_int)) (pf_ix (pf_var 1) (pf_int)) (nomark _)) (pfw_or1 (pft_w (pfw_and (pft_cmp (op_eqD hr.units) opd_eq (pf_ix (pf_var 7) (pf_int)) (pf_ix (pf_var 1) (pf_int)) (nomark _)) (pfw_and (pft_cmp (op_ltA hr.units0) opd_lt (pf_sl false (pf_var 7) (pfo_some (pf_int)) (pfo_none)) (pf_sl false (pf_var 1) (pfo_some (pf_int)) (pfo_none)) (nomark _)) (pfw_and1 (pft_cmp (op_gtA hr.units0) opd_gtA (pf_ix (pf_var 7) (pf_int)) (pf_int) (nomark _))))))))) (pfb_one (pfs_set (i := 1) sc_widest.nd rfl (Or.inl rfl) (pf_var 7))) (pfb_nil)))))))
    (pfb_one (pfs_expr (pf_bm PySem.F.plainAttrs_list PySem.F.slot_list_append PySem.F.type_list_append mt_append md_append (pf_var 2) (pfa_cons (pf_var 3) (pfa_nil))))))))
    (pfb_one (pfs_ret (pf_var 1))))
abbrev s__law_dice : Stmt := topS 13
theorem sc__law_dice : FnScope ["cell"] ["cell"] (defScope s__law_dice) :=
  ⟨rfl, rfl, rfl, by decide +kernel, rfl, by decide +kernel, by decide +kernel⟩
structure T__law_dice (K : PySem.W.Frag) (mg : Str → Option Value) : Prop where
  b_abs : mg "abs" = none
  b_int : mg "int" = none
set_option maxHeartbeats 4000000 in
theorem d__law_dice {P : Program} {w : World} {K : PySem.W.Frag} {mg : Str → Option Value} {base : Heap} {f : Addr} {cdv : Value} {A : Around} {outer : List Env} {s : Shared} {H : Hp} {E : XK} {k : Nat} (T : T__law_dice K mg)
    (hr : Room k (A.deeper (PyProof.Rows.envOfC "_law_dice" (defScope s__law_dice) s.heap.objs.size f cdv))) :
    PFB (cxOf (L2.CX P w) P w K mg base ["cell"] "_law_dice" (defScope s__law_dice) f cdv A outer s H E) (fun c d _ H => E c d H) (defBody s__law_dice) (f__law_dice) :=
  pfb_cons (pfs_if (pft_chain (op_ltA hr.units0) opd_lt (op_ltA hr.units0) opd_lt (pf_op op_sub opd_sub (pf_int) (pf_int)) (pf_var 0) (pf_int)) (pfb_one (pfs_ret (pf_lst true (pfa_cons (pf_callB call_abs cd_abs (by rfl) T.b_abs (pfa_cons (pf_var 0) (pfa_nil))) (pfa_cons (pf_int) (pfa_cons (pf_int) (pfa_nil))))))) (pfb_nil))
    (pfb_one (pfs_ret (pf_lst true (pfa_cons (pf_var 0) (pfa_cons (pf_op op_addA (opd_add false) (pf_int) (pf_op op_mod opd_mod (pf_callTy call_int1 cd_int (by rfl) T.b_int (pfa_cons (pf_var 0) (pfa_nil))) (pf_int))) (pfa_cons (pf_callTy call_int1 cd_int (by rfl) T.b_int (pfa_cons (pf_cmp op_ge opd_ge (pf_var 0) (pf_op op_pow opd_pow (pf_int) (pf_int)) (nomark _)) (pfa_nil))) (pfa_nil)))))))
abbrev s__law_roll : Stmt := topS 14
theorem sc__law_roll : FnScope ["dice", "many", "found"] ["dice", "many"] (defScope s__law_roll) :=
  ⟨rfl, rfl, rfl, by decide +kernel, rfl, by decide +kernel, by decide +kernel⟩
structure T__law_roll (K : PySem.W.Frag) (mg : Str → Option Value) : Prop where
  b_int : mg "int" = none
set_option maxHeartbeats 4000000 in
theorem d__law_roll {P : Program} {w : World} {K : PySem.W.Frag} {mg : Str → Option Value} {base : Heap} {f : Addr} {cdv : Value} {A : Around} {outer : List Env} {s : Shared} {H : Hp} {E : XK} {k : Nat} (T : T__law_roll K mg)
    (hr : Room k (A.deeper (PyProof.Rows.envOfC "_law_roll" (defScope s__law_roll) s.heap.objs.size f cdv))) :
    PFB (cxOf (L2.CX P w) P w K mg base ["dice", "many", "found"] "_law_roll" (defScope s__law_roll) f cdv A outer s H E) (fun c d _ H => E c d H) (defBody s__law_roll) (f__law_roll) :=
  pfb_cons (pfs_if (pft_w (pfw_or (pft_cmp (op_eqD hr.units) opd_eq (pf_ix (pf_var 0) (pf_int)) (pf_int) (nomark _)) (pfw_or1 (pft_w (pfw_and (pft_cmp (op_eqD hr.units) opd_eq (pf_ix (pf_var 0) (pf_int)) (pf_int) (nomark _)) (pfw_and1 (pft_cmp (op_gtA hr.units0) opd_gtA (pf_ix (pf_var 0) (pf_int)) (pf_int) (nomark _)))))))) (pfb_cons (pfs_set (i := 2) sc__law_roll.nd rfl (Or.inl rfl) (pf_op op_mod opd_mod (pf_callTy call_int1 cd_int (by rfl) T.b_int (pfa_cons (pf_ix (pf_var 0) (pf_int)) (pfa_nil))) (pf_var 1)))
    (pfb_cons (pfs_asg (pf_op op_fdiv opd_fdiv (pf_ix (pf_var 0) (pf_int)) (pf_var 1)) (pfg_sub (Wx := F0) (pf_var 0) (pf_int)))
    (pfb_one (pfs_ret (pf_var 2))))) (pfb_nil))
    (pfb_cons (pfs_asg (pf_int) (pfg_sub (Wx := F0) (pf_var 0) (pf_int)))
    (pfb_cons (pfs_asg (pf_op op_mod opd_mod (pf_callTy call_int1 cd_int (by rfl) T.b_int (pfa_cons (pf_op op_addA (opd_add false) (pf_op op_addA (opd_add false) (pf_op op_mulA (opd_mul false) (pf_ix (pf_var 0) (pf_int)) (pf_int)) (pf_op op_mulA (opd_mul false) (pf_ix (pf_var 0) (pf_int)) (pf_int))) (pf_int)) (pfa_nil))) (pf_int)) (pfg_sub (Wx := F0) (pf_var 0) (pf_int)))
    (pfb_cons (pfs_asg (pf_op op_addA (opd_add false) (pf_ix (pf_var 0) (pf_int)) (pf_int)) (pfg_sub (Wx := F0) (pf_var 0) (pf_int)))
    (pfb_one (pfs_ret (pf_op op_mod opd_mod (pf_callTy call_int1 cd_int (by rfl) T.b_int (pfa_cons (pf_op op_addA (opd_add false) (pf_op op_fdiv opd_fdiv (pf_ix (pf_var 0) (pf_int)) (pf_int)) (pf_ix (pf_var 0) (pf_int))) (pfa_nil))) (pf_var 1)))))))
abbrev s__law_rounds : Stmt := topS 15
theorem sc__law_rounds : FnScope ["script", "most", "cells", "cell"] ["script", "most"] (defScope s__law_rounds) :=
  ⟨rfl, rfl, rfl, by decide +kernel, rfl, by decide +kernel, by decide +kernel⟩
structure T__law_rounds (K : PySem.W.Frag) (mg : Str → Option Value) : Prop where
  triv : True
set_option maxHeartbeats 4000000 in
theorem d__law_rounds {P : Program} {w : World} {K : PySem.W.Frag} {mg : Str → Option Value} {base : Heap} {f : Addr} {cdv : Value} {A : Around} {outer : List Env} {s : Shared} {H : Hp} {E : XK} {k : Nat} {F__law_dice : FN} {k__law_dice : Nat} (T : T__law_rounds K mg)
    (c__law_dice : Cal P w K mg base "_law_dice" ["cell"] k__law_dice F__law_dice) (l__law_dice : k__law_dice ≤ k)
    (hr : Room k (A.deeper (PyProof.Rows.envOfC "_law_rounds" (defScope s__law_rounds) s.heap.objs.size f cdv))) :
    PFB (cxOf (L2.CX P w) P w K mg base ["script", "most", "cells", "cell"] "_law_rounds" (defScope s__law_rounds) f cdv A outer s H E) (fun c d _ H => E c d H) (defBody s__law_rounds) (f__law_rounds F__law_dice) :=
  pfb_cons (pfs_set (i := 2) sc__law_rounds.nd rfl (Or.inl rfl) (pf_sl false (pf_var 0) (pfo_none) (pfo_some (pf_var 1))))
    (pfb_cons (pfs_if (pft_cmp (op_eqD hr.units) opd_eq (pf_var 2) (pf_lst false (pfa_nil)) (nomark _)) (pfb_one (pfs_set (i := 2) sc__law_rounds.nd rfl (Or.inl rfl) (pf_lst false (pfa_cons (pf_int) (pfa_nil))))) (pfb_nil))
    (pfb_one (pfs_ret (pf_lc 100000 false [("cell", 3)] rfl sc__law_rounds.nd (own_name 3) (wipe_wipe1 _) (pfi_seq (pf_var 2)) (blkOk_by (own := [("cell", 3)]) (N := ["script", "most", "cells", "cell"]) (sc := defScope s__law_rounds) (by decide +kernel)) (fun _ _ _ _ _ => pg_name (i := 3) sc__law_rounds.nd rfl (Or.inl rfl)) (fun _ _ _ _ _ => pfts_nil) (fun _ _ _ _ _ => pf_callC c__law_dice hr l__law_dice (by rfl) takes0 (pfa_cons (pf_var 3) (pfa_nil)))))))
abbrev s__law_row : Stmt := topS 16
theorem sc__law_row : FnScope ["dice", "most", "wide", "k"] ["dice", "most", "wide"] (defScope s__law_row) :=
  ⟨rfl, rfl, rfl, by decide +kernel, rfl, by decide +kernel, by decide +kernel⟩
structure T__law_row (K : PySem.W.Frag) (mg : Str → Option Value) : Prop where
  b_range : mg "range" = none
set_option maxHeartbeats 4000000 in
theorem d__law_row {P : Program} {w : World} {K : PySem.W.Frag} {mg : Str → Option Value} {base : Heap} {f : Addr} {cdv : Value} {A : Around} {outer : List Env} {s : Shared} {H : Hp} {E : XK} {k : Nat} {F__law_roll : FN} {k__law_roll : Nat} (T : T__law_row K mg)
    (c__law_roll : Cal P w K mg base "_law_roll" ["dice", "many"] k__law_roll F__law_roll) (l__law_roll : k__law_roll ≤ k)
    (hr : Room k (A.deeper (PyProof.Rows.envOfC "_law_row" (defScope s__law_row) s.heap.objs.size f cdv))) :
    PFB (cxOf (L2.CX P w) P w K mg base ["dice", "most", "wide", "k"] "_law_row" (defScope s__law_row) f cdv A outer s H E) (fun c d _ H => E c d H) (defBody s__law_row) (f__law_row F__law_roll) :=
  pfb_one (pfs_ret (pf_lc 100000 false [("k", 3)] rfl sc__law_row.nd (own_name 3) (wipe_wipe1 _) (pfi_range1 (by rfl) T.b_range (pfa_cons (pf_callC c__law_roll hr l__law_roll (by rfl) (takes_of rfl rfl rfl rfl) (pfa_cons (pf_var 0) (pfa_cons (pf_op op_addA (opd_add false) (pf_var 1) (pf_int)) (pfa_nil)))) (pfa_nil))) (blkOk_by (own := [("k", 3)]) (N := ["dice", "most", "wide", "k"]) (sc := defScope s__law_row) (by decide +kernel)) (fun _ _ _ _ _ => pg_name (i := 3) sc__law_row.nd rfl (Or.inl rfl)) (fun _ _ _ _ _ => pfts_nil) (fun _ _ _ _ _ => pf_op op_sub opd_sub (pf_callC c__law_roll hr l__law_roll (by rfl) takes0 (pfa_cons (pf_var 0) (pfa_cons (pf_op op_addA (opd_add false) (pf_op op_mulA (opd_mul false) (pf_int) (pf_var 2)) (pf_int)) (pfa_nil)))) (pf_var 2))))
abbrev s_law : Stmt := topS 17
theorem sc_law : FnScope ["script", "dice", "row", "wide", "places", "due", "k", "later", "heights", "best", "low", "high", "area", "told", "j"] ["script"] (defScope s_law) :=
  ⟨rfl, rfl, rfl, by decide +kernel, rfl, by decide +kernel, by decide +kernel⟩
def f_law_b2 (K : PySem.W.Frag) (C_BadDeed : Addr) (F__law_rounds F__law_roll F__law_row F_windows F_next_greater F_widest : FN) : FS :=
  fSeq (fAsg (fLc 100000 false [14] (fiRng2 (fCons (fOp (gAdd false) (fVar 6) (fC (.int 1))) (fCons (fCB gLen (fCons (fVar 2) (fNil))) (fNil)))) (gtName 14) (fTst (fOp gGtA (fOp gIx (fVar 2) (fVar 14)) (fOp gIx (fVar 2) (fVar 6)))) (fVar 14)) (gtName 7))
    (fExpr (fBM "list" gAppend (fVar 5) (fCons (fOp gIx (fOp (gAdd false) (fVar 7) (fLst false (fCons (fC .non) (fNil)))) (fC (.int 0))) (fNil))))
def f_law_b4 (K : PySem.W.Frag) (C_BadDeed : Addr) (F__law_rounds F__law_roll F__law_row F_windows F_next_greater F_widest : FN) : FS :=
  fSeq (fAsg (fOp (gMul false) (fCB gMin (fCons (fSl false (fVar 8) (fPart (fVar 10)) (fPart (fVar 11))) (fNil))) (fOp gMinus (fVar 11) (fVar 10))) (gtName 12))
    (fIte (fTst (fOp gGtA (fVar 12) (fOp gIx (fVar 9) (fC (.int 0))))) (fAsg (fTup (fCons (fVar 12) (fCons (fVar 10) (fCons (fVar 11) (fNil))))) (gtName 9)) (fNext))
def f_law_b3 (K : PySem.W.Frag) (C_BadDeed : Addr) (F__law_rounds F__law_roll F__law_row F_windows F_next_greater F_widest : FN) : FS :=
  fFor 100000 (fiRng2 (fCons (fOp (gAdd false) (fVar 10) (fC (.int 1))) (fCons (fOp (gAdd false) (fCB gLen (fCons (fVar 8) (fNil))) (fC (.int 1))) (fNil)))) (gtName 11) (f_law_b4 K C_BadDeed F__law_rounds F__law_roll F__law_row F_windows F_next_greater F_widest)
def f_law_b1 (K : PySem.W.Frag) (C_BadDeed : Addr) (F__law_rounds F__law_roll F__law_row F_windows F_next_greater F_widest : FN) : FS :=
  fSeq (fAsg (fTup (fCons (fCall (FN.len F__law_row 3) (fCons (fVar 1) (fCons (fC (.int 12)) (fCons (fC (.int 9)) (fNil))))) (fCons (fOp (gAdd false) (fC (.int 1)) (fCall (FN.len F__law_roll 2) (fCons (fVar 1) (fCons (fC (.int 5)) (fNil))))) (fNil)))) (gtTup 2 (gtCons (gtName 2) (gtCons (gtName 3) (gtNil)))))
    (fSeq (fAsg (fLstRg1 false (fCB gMax (fCons (fC (.int 0)) (fCons (fOp (gAdd false) (fOp gMinus (fCB gLen (fCons (fVar 2) (fNil))) (fVar 3)) (fC (.int 1))) (fNil))))) (gtName 4))
    (fSeq (fIte (fTst (fOp gNe (fCB (gList false) (fCons (fCall (FN.len F_windows 3) (fCons (fVar 2) (fCons (fVar 3) (fCons (fC (.bl false)) (fNil))))) (fNil))) (fLc 100000 false [6] (fiSeq (fVar 4)) (gtName 6) (fYes) (fCB gMin (fCons (fSl false (fVar 2) (fPart (fVar 6)) (fPart (fOp (gAdd false) (fVar 6) (fVar 3)))) (fNil)))))) (fRet (fC (.bl false))) (fNext))
    (fSeq (fIte (fTst (fOp gNe (fCB (gList false) (fCons (fCall (FN.len F_windows 3) (fCons (fVar 2) (fCons (fVar 3) (fCons (fC (.bl true)) (fNil))))) (fNil))) (fLc 100000 false [6] (fiSeq (fVar 4)) (gtName 6) (fYes) (fCB gMax (fCons (fSl false (fVar 2) (fPart (fVar 6)) (fPart (fOp (gAdd false) (fVar 6) (fVar 3)))) (fNil)))))) (fRet (fC (.bl false))) (fNext))
    (fSeq (fAsg (fLst true (fNil)) (gtName 5))
    (fSeq (fFor 100000 (fiRng1 (fCons (fCB gLen (fCons (fVar 2) (fNil))) (fNil))) (gtName 6) (f_law_b2 K C_BadDeed F__law_rounds F__law_roll F__law_row F_windows F_next_greater F_widest))
    (fSeq (fIte (fTst (fOp gNe (fCB (gList false) (fCons (fCall (FN.len F_next_greater 1) (fCons (fVar 2) (fNil))) (fNil))) (fVar 5))) (fRet (fC (.bl false))) (fNext))
    (fSeq (fAsg (fLc 100000 false [6] (fiRng1 (fCons (fCall (FN.len F__law_roll 2) (fCons (fVar 1) (fCons (fC (.int 9)) (fNil)))) (fNil))) (gtName 6) (fYes) (fCall (FN.len F__law_roll 2) (fCons (fVar 1) (fCons (fC (.int 6)) (fNil))))) (gtName 8))
    (fSeq (fAsg (fTup (fCons (fC (.int 0)) (fCons (fC (.int 0)) (fCons (fC (.int 0)) (fNil))))) (gtName 9))
    (fSeq (fFor 100000 (fiRng1 (fCons (fCB gLen (fCons (fVar 8) (fNil))) (fNil))) (gtName 10) (f_law_b3 K C_BadDeed F__law_rounds F__law_roll F__law_row F_windows F_next_greater F_widest))
    (fSeq (fAsg (fCall (FN.len F_widest 1) (fCons (fVar 8) (fNil))) (gtName 13))
    (fSeq (fIte (fOrT (fTst (fOp gNe (fOp gIx (fVar 13) (fC (.int 0))) (fOp gIx (fVar 9) (fC (.int 0))))) (fAndT (fTst (fOp gGtA (fOp gIx (fVar 9) (fC (.int 0))) (fC (.int 0)))) (fTst (fOp gNe (fOp (gMul false) (fCB gMin (fCons (fSl false (fVar 8) (fPart (fOp gIx (fVar 13) (fC (.int 1)))) (fPart (fOp gIx (fVar 13) (fC (.int 2))))) (fNil))) (fOp gMinus (fOp gIx (fVar 13) (fC (.int 2))) (fOp gIx (fVar 13) (fC (.int 1))))) (fOp gIx (fVar 9) (fC (.int 0))))))) (fRet (fC (.bl false))) (fNext))
    (fSeq (fIte (fAndT (fTst (fOp gGtA (fOp gIx (fVar 9) (fC (.int 0))) (fC (.int 0)))) (fAndT (fTst (fOp gNe (fVar 13) (fVar 9))) (fTst (fOp gGtA (fSl false (fVar 13) (fPart (fC (.int 1))) (fNoPart)) (fSl false (fVar 9) (fPart (fC (.int 1))) (fNoPart)))))) (fRet (fC (.bl false))) (fNext))
    (fTry K (fSeq (fExpr (fCall (FN.len F_windows 3) (fCons (fVar 2) (fCons (fC (.int 0)) (fCons (fC (.bl true)) (fNil))))))
    (fRet (fC (.bl false)))) [(C_BadDeed, quiet (fNext))])))))))))))))
def f_law (K : PySem.W.Frag) (C_BadDeed : Addr) (F__law_rounds F__law_roll F__law_row F_windows F_next_greater F_widest : FN) : FS :=
  fSeq (fFor 100000 (fiSeq (fCall (FN.len F__law_rounds 2) (fCons (fVar 0) (fCons (fC (.int 5)) (fNil))))) (gtName 1) (f_law_b1 K C_BadDeed F__law_rounds F__law_roll F__law_row F_windows F_next_greater F_widest))
    (fRet (fC (.bl true)))
structure T_law (K : PySem.W.Frag) (mg : Str → Option Value) (C_BadDeed : Addr) : Prop where
  b_len : mg "len" = none
  b_list : mg "list" = none
  b_max : mg "max" = none
  b_min : mg "min" = none
  b_range : mg "range" = none
  e_BadDeed : Exc K mg "BadDeed" C_BadDeed
set_option maxHeartbeats 4000000 in
theorem d_law {P : Program} {w : World} {K : PySem.W.Frag} {mg : Str → Option Value} {base : Heap} {f : Addr} {cdv : Value} {A : Around} {outer : List Env} {s : Shared} {H : Hp} {E : XK} {k : Nat} {C_BadDeed : Addr} {F__law_rounds F__law_roll F__law_row F_windows F_next_greater F_widest : FN} {k__law_rounds k__law_roll k__law_row k_windows k_next_greater k_widest : Nat} (T : T_law K mg C_BadDeed)
    (c__law_rounds : Cal P w K mg base "_law_rounds" ["script", "most"] k__law_rounds F__law_rounds) (l__law_rounds : k__law_rounds ≤ k)
    (c__law_roll : Cal P w K mg base "_law_roll" ["dice", "many"] k__law_roll F__law_roll) (l__law_roll : k__law_roll ≤ k)
    (c__law_row : Cal P w K mg base "_law_row" ["dice", "most", "wide"] k__law_row F__law_row) (l__law_row : k__law_row ≤ k)
    (c_windows : Cal P w K mg base "windows" ["row", "wide", "greatest"] k_windows F_windows) (l_windows : k_windows ≤ k)
    (c_next_greater : Cal P w K mg base "next_greater" ["row"] k_next_greater F_next_greater) (l_next_greater : k_next_greater ≤ k)
    (c_widest : Cal P w K mg base "widest" ["heights"] k_widest F_widest) (l_widest : k_widest ≤ k)
    (hr : Room k (A.deeper (PyProof.Rows.envOfC "law" (defScope s_law) s.heap.objs.size f cdv))) :
    PFB (cxOf (L2.CX P w) P w K mg base ["script", "dice", "row", "wide", "places", "due", "k", "later", "heights", "best", "low", "high", "area", "told", "j"] "law" (defScope s_law) f cdv A outer s H E) (fun c d _ H => E c d H) (defBody s_law) (f_law K C_BadDeed F__law_rounds F__law_roll F__law_row F_windows F_next_greater F_widest) :=
  pfb_cons (pfs_for 100000 (passes_of rfl) rfl (pfi_seq (pf_callC c__law_rounds hr l__law_rounds (by rfl) (takes_of rfl rfl rfl rfl) (pfa_cons (pf_var 0) (pfa_cons (pf_int) (pfa_nil))))) (pfg_name (i := 1) sc_law.nd rfl (Or.inr rfl)) (pfb_cons (pfs_asg (pf_tup (pfa_cons (pf_callC c__law_row hr l__law_row (by rfl) (takes_of rfl rfl rfl rfl) (pfa_cons (pf_var 1) (pfa_cons (pf_int) (pfa_cons (pf_int) (pfa_nil))))) (pfa_cons (pf_op op_addA (opd_add false) (pf_int) (pf_callC c__law_roll hr l__law_roll (by rfl) (takes_of rfl rfl rfl rfl) (pfa_cons (pf_var 1) (pfa_cons (pf_int) (pfa_nil))))) (pfa_nil)))) (pfg_tup rfl (pfgs_cons (pfg_name (i := 2) sc_law.nd rfl (Or.inr rfl)) (pfgs_cons (pfg_name (i := 3) sc_law.nd rfl (Or.inr rfl)) (pfgs_nil)))))
    (pfb_cons (pfs_set (i := 4) sc_law.nd rfl (Or.inl rfl) (pf_lstRg1 false (by rfl) (by rfl) T.b_list (by rfl) T.b_range (pf_callB (call_maxA rfl) cd_max (by rfl) T.b_max (pfa_cons (pf_int) (pfa_cons (pf_op op_addA (opd_add false) (pf_op op_sub opd_sub (pf_callB call_lenA cd_len (by rfl) T.b_len (pfa_cons (pf_var 2) (pfa_nil))) (pf_var 3)) (pf_int)) (pfa_nil))))))
    (pfb_cons (pfs_if (pft_cmp (op_neD hr.units) opd_ne (pf_callTy call_list_of (cd_list false) (by rfl) T.b_list (pfa_cons (pf_callC c_windows hr l_windows (by rfl) (takes_of rfl rfl rfl rfl) (pfa_cons (pf_var 2) (pfa_cons (pf_var 3) (pfa_cons (pf_bl) (pfa_nil))))) (pfa_nil))) (pf_lc 100000 false [("k", 6)] rfl sc_law.nd (own_name 6) (wipe_wipe1 _) (pfi_seq (pf_var 4)) (blkOk_by (own := [("k", 6)]) (N := ["script", "dice", "row", "wide", "places", "due", "k", "later", "heights", "best", "low", "high", "area", "told", "j"]) (sc := defScope s_law) (by decide +kernel)) (fun _ _ _ _ _ => pg_name (i := 6) sc_law.nd rfl (Or.inl rfl)) (fun _ _ _ _ _ => pfts_nil) (fun _ _ _ _ _ => pf_callB (call_minA rfl) cd_min (by rfl) T.b_min (pfa_cons (pf_sl false (pf_var 2) (pfo_some (pf_var 6)) (pfo_some (pf_op op_addA (opd_add false) (pf_var 6) (pf_var 3)))) (pfa_nil)))) (nomark _)) (pfb_one (pfs_ret (pf_bl))) (pfb_nil))
    (pfb_cons (pfs_if (pft_cmp (op_neD hr.units) opd_ne (pf_callTy call_list_of (cd_list false) (by rfl) T.b_list (pfa_cons (pf_callC c_windows hr l_windows (by rfl) (takes_of rfl rfl rfl rfl) (pfa_cons (pf_var 2) (pfa_cons (pf_var 3) (pfa_cons (pf_bl) (pfa_nil))))) (pfa_nil))) (pf_lc 100000 false [("k", 6)] rfl sc_law.nd (own_name 6) (wipe_wipe1 _) (pfi_seq (pf_var 4)) (blkOk_by (own := [("k", 6)]) (N := ["script", "dice", "row", "wide", "places", "due", "k", "later", "heights", "best", "low", "high", "area", "told", "j"]) (sc := defScope s_law) (by decide +kernel)) (fun _ _ _ _ _ => pg_name (i := 6) sc_law.nd rfl (Or.inl rfl)) (fun _ _ _ _ _ => pfts_nil) (fun _ _ _ _ _ => pf_callB (call_maxA rfl) cd_max (by rfl) T.b_max (pfa_cons (pf_sl false (pf_var 2) (pfo_some (pf_var 6)) (pfo_some (pf_op op_addA (opd_add false) (pf_var 6) (pf_var 3)))) (pfa_nil)))) (nomark _)) (pfb_one (pfs_ret (pf_bl))) (pfb_nil))
    (pfb_cons (pfs_set (i := 5) sc_law.nd rfl (Or.inl rfl) (pf_lst true (pfa_nil)))
    (pfb_cons (pfs_for 100000 (passes_of rfl) rfl (pfi_range1 (by rfl) T.b_range (pfa_cons (pf_callB call_lenA cd_len (by rfl) T.b_len (pfa_cons (pf_var 2) (pfa_nil))) (pfa_nil))) (pfg_name (i := 6) sc_law.nd rfl (Or.inr rfl)) (pfb_cons (pfs_lc 100000 false [("j", 14)] (i := 7) rfl sc_law.nd rfl rfl (sw_true rfl rfl rfl (by decide +kernel)) (own_name 14) (wipe_wipe1 _) (pfi_range2 (by rfl) T.b_range (pfa_cons (pf_op op_addA (opd_add false) (pf_var 6) (pf_int)) (pfa_cons (pf_callB call_lenA cd_len (by rfl) T.b_len (pfa_cons (pf_var 2) (pfa_nil))) (pfa_nil)))) (blkOk_by (own := [("j", 14)]) (N := ["script", "dice", "row", "wide", "places", "due", "k", "later", "heights", "best", "low", "high", "area", "told", "j"]) (sc := defScope s_law) (by decide +kernel)) (fun _ _ _ _ _ => pg_name (i := 14) sc_law.nd rfl (Or.inl rfl)) (fun _ _ _ _ _ => pfts_one (pft_cmp (op_gtA hr.units0) opd_gtA (pf_ix (pf_var 2) (pf_var 14)) (pf_ix (pf_var 2) (pf_var 6)) (nomark _))) (fun _ _ _ _ _ => pf_var 14))
    (pfb_one (pfs_expr (pf_bm PySem.F.plainAttrs_list PySem.F.slot_list_append PySem.F.type_list_append mt_append md_append (pf_var 5) (pfa_cons (pf_ix (pf_op op_addA (opd_add false) (pf_var 7) (pf_lst false (pfa_cons (pf_non) (pfa_nil)))) (pf_int)) (pfa_nil)))))))
    (pfb_cons (pfs_if (pft_cmp (op_neD hr.units) opd_ne (pf_callTy call_list_of (cd_list false) (by rfl) T.b_list (pfa_cons (pf_callC c_next_greater hr l_next_greater (by rfl) (takes_of rfl rfl rfl rfl) (pfa_cons (pf_var 2) (pfa_nil))) (pfa_nil))) (pf_var 5) (nomark _)) (pfb_one (pfs_ret (pf_bl))) (pfb_nil))
    (pfb_cons (pfs_lc 100000 false [("k", 6)] (i := 8) rfl sc_law.nd rfl rfl (sw_true rfl rfl rfl (by decide +kernel)) (own_name 6) (wipe_wipe1 _) (pfi_range1 (by rfl) T.b_range (pfa_cons (pf_callC c__law_roll hr l__law_roll (by rfl) (takes_of rfl rfl rfl rfl) (pfa_cons (pf_var 1) (pfa_cons (pf_int) (pfa_nil)))) (pfa_nil))) (blkOk_by (own := [("k", 6)]) (N := ["script", "dice", "row", "wide", "places", "due", "k", "later", "heights", "best", "low", "high", "area", "told", "j"]) (sc := defScope s_law) (by decide +kernel)) (fun _ _ _ _ _ => pg_name (i := 6) sc_law.nd rfl (Or.inl rfl)) (fun _ _ _ _ _ => pfts_nil) (fun _ _ _ _ _ => pf_callC c__law_roll hr l__law_roll (by rfl) takes0 (pfa_cons (pf_var 1) (pfa_cons (pf_int) (pfa_nil)))))
    (pfb_cons (pfs_set (i := 9) sc_law.nd rfl (Or.inl rfl) (pf_tup (pfa_cons (pf_int) (pfa_cons (pf_int) (pfa_cons (pf_int) (pfa_nil))))))
    (pfb_cons (pfs_for 100000 (passes_of rfl) rfl (pfi_range1 (by rfl) T.b_range (pfa_cons (pf_callB call_lenA cd_len (by rfl) T.b_len (pfa_cons (pf_var 8) (pfa_nil))) (pfa_nil))) (pfg_name (i := 10) sc_law.nd rfl (Or.inl rfl)) (pfb_one (pfs_for 100000 (passes_of rfl) rfl (pfi_range2 (by rfl) T.b_range (pfa_cons (pf_op op_addA (opd_add false) (pf_var 10) (pf_int)) (pfa_cons (pf_op op_addA (opd_add false) (pf_callB call_lenA cd_len (by rfl) T.b_len (pfa_cons (pf_var 8) (pfa_nil))) (pf_int)) (pfa_nil)))) (pfg_name (i := 11) sc_law.nd rfl (Or.inl rfl)) (pfb_cons (pfs_set (i := 12) sc_law.nd rfl (Or.inl rfl) (pf_op op_mulA (opd_mul false) (pf_callB (call_minA rfl) cd_min (by rfl) T.b_min (pfa_cons (pf_sl false (pf_var 8) (pfo_some (pf_var 10)) (pfo_some (pf_var 11))) (pfa_nil))) (pf_op op_sub opd_sub (pf_var 11) (pf_var 10))))
    (pfb_one (pfs_if (pft_cmp (op_gtA hr.units0) opd_gtA (pf_var 12) (pf_ix (pf_var 9) (pf_int)) (nomark _)) (pfb_one (pfs_set (i := 9) sc_law.nd rfl (Or.inl rfl) (pf_tup (pfa_cons (pf_var 12) (pfa_cons (pf_var 10) (pfa_cons (pf_var 11) (pfa_nil))))))) (pfb_nil)))))))
    (pfb_cons (pfs_set (i := 13) sc_law.nd rfl (Or.inl rfl) (pf_callC c_widest hr l_widest (by rfl) (takes_of rfl rfl rfl rfl) (pfa_cons (pf_var 8) (pfa_nil))))
    (pfb_cons (pfs_if (pft_w (pfw_or (pft_cmp (op_neD hr.units) opd_ne (pf_ix (pf_var 13) (pf_int)) (pf_ix (pf_var 9) (pf_int)) (nomark _)) (pfw_or1 (pft_w (pfw_and (pft_cmp (op_gtA hr.units0) opd_gtA (pf_ix (pf_var 9) (pf_int)) (pf_int) (nomark _)) (pfw_and1 (pft_cmp (op_neD hr.units) opd_ne (pf_op op_mulA (opd_mul false) (pf_callB (call_minA rfl) cd_min (by rfl) T.b_min (pfa_cons (pf_sl false (pf_var 8) (pfo_some (pf_ix (pf_var 13) (pf_int))) (pfo_some (pf_ix (pf_var 13) (pf_int)))) (pfa_nil))) (pf_op op_sub opd_sub (pf_ix (pf_var 13) (pf_int)) (pf_ix (pf_var 13) (pf_int)))) (pf_ix (pf_var 9) (pf_int)) (nomark _)))))))) (pfb_one (pfs_ret (pf_bl))) (pfb_nil))
    (pfb_cons (pfs_if (pft_w (pfw_and (pft_cmp (op_gtA hr.units0) opd_gtA (pf_ix (pf_var 9) (pf_int)) (pf_int) (nomark _)) (pfw_and (pft_cmp (op_neD hr.units) opd_ne (pf_var 13) (pf_var 9) (nomark _)) (pfw_and1 (pft_cmp (op_gtA hr.units0) opd_gtA (pf_sl false (pf_var 13) (pfo_some (pf_int)) (pfo_none)) (pf_sl false (pf_var 9) (pfo_some (pf_int)) (pfo_none)) (nomark _)))))) (pfb_one (pfs_ret (pf_bl))) (pfb_nil))
    (pfb_one (pfs_try rfl rfl (takes_of rfl rfl rfl rfl) (fun W pn xe tk po => pfb_cons (pfs_expr (pf_callC c_windows hr l_windows (by rfl) tk (pfa_cons (pf_var 2) (pfa_cons (pf_int) (pfa_cons (pf_bl) (pfa_nil))))))
    (pfb_one (pfs_ret (pf_bl)))) (PFH.cons (C := C_BadDeed) (by exact ⟨rfl, by decide, .inl T.e_BadDeed.g⟩) (fun _ _ _ _ _ => pfb_one (pfs_pass)) (PFH.nil))))))))))))))))))
    (pfb_one (pfs_ret (pf_bl)))
end Law

/-! windows: the mathematics -/
namespace Win
def sg (g : Bool) (x : Int) : Int := if g then -x else x
/-- what stays when bad ones go off the end -/
def popW (p : Nat → Bool) (l : List Nat) : List Nat := (l.reverse.dropWhile p).reverse
theorem popW_nil (p : Nat → Bool) : popW p [] = [] := rfl
theorem popW_concat (p : Nat → Bool) (l : List Nat) (h : Nat) : popW p (l ++ [h]) = if p h = true then popW p l else l ++ [h] := by
  unfold popW
  rw [List.reverse_append]
  simp only [List.reverse_cons, List.reverse_nil, List.nil_append, List.singleton_append, List.dropWhile_cons]
  split
  · rfl
  · simp
theorem popW_spec (p : Nat → Bool) : ∀ l : List Nat, ∃ t, l = popW p l ++ t ∧ (∀ x ∈ t, p x = true) ∧ (∀ m y, popW p l = m ++ [y] → p y = false) := by
  intro l
  generalize hn : l.length = n
  induction n generalizing l with
  | zero =>
    have : l = [] := List.length_eq_zero_iff.mp hn
    subst this
    exact ⟨[], rfl, by simp, fun m y h => by simp [popW] at h⟩
  | succ n ih =>
    rcases List.eq_nil_or_concat l with h | ⟨l', x, rfl⟩
    · subst h; simp at hn
    · rw [List.concat_eq_append] at hn ⊢
      rw [popW_concat]
      split
      · rename_i hx
        obtain ⟨t, h1, h2, h3⟩ := ih l' (by simpa using hn)
        refine ⟨t ++ [x], by rw [← List.append_assoc, ← h1], ?_, h3⟩
        intro y hy
        rcases List.mem_append.mp hy with hy | hy
        · exact h2 y hy
        · simp at hy; subst hy; exact hx
      · rename_i hx
        refine ⟨[], by simp, by simp, fun m y h => ?_⟩
        have := List.append_inj_right' h rfl
        simp at this; subst this
        simpa using hx
structure Inv (g : Bool) (v : Nat → Int) (w k : Nat) (held : List Nat) : Prop where
  up : held.Pairwise (· < ·)
  win : ∀ h ∈ held, h < k ∧ k ≤ h + w
  dom : ∀ j, j < k → k ≤ j + w → ∃ h ∈ held, j ≤ h ∧ sg g (v h) ≤ sg g (v j)
  st : held.Pairwise (fun a b => sg g (v a) < sg g (v b))
def bad (g : Bool) (v : Nat → Int) (k : Nat) (h : Nat) : Bool := decide (sg g (v k) ≤ sg g (v h))
def mid (g : Bool) (v : Nat → Int) (k : Nat) (held : List Nat) : List Nat := popW (bad g v k) held ++ [k]
def step (g : Bool) (v : Nat → Int) (w k : Nat) (held : List Nat) : List Nat :=
  if (mid g v k held).head?.any (fun h => decide (h + w ≤ k)) then (mid g v k held).tail else mid g v k held
theorem inv0 (g : Bool) (v : Nat → Int) (w : Nat) : Inv g v w 0 [] := ⟨.nil, by simp, fun j h => by omega, .nil⟩
theorem last_max {r : Nat → Nat → Prop} : ∀ {l : List Nat}, l.Pairwise r → ∀ {m y}, l = m ++ [y] → ∀ x ∈ m, r x y
  | l, h, m, y, e, x, hx => by
    subst e
    exact (List.pairwise_append.mp h).2.2 x hx y (by simp)
theorem inv_step {g : Bool} {v : Nat → Int} {w k : Nat} {held : List Nat} (hw : 1 ≤ w) (I : Inv g v w k held) : Inv g v w (k + 1) (step g v w k held) ∧ ∃ h0 r, step g v w k held = h0 :: r := by
  obtain ⟨t, e, ht, hl⟩ := popW_spec (bad g v k) held
  have hpre : ∀ x ∈ popW (bad g v k) held, x ∈ held := fun x hx => by rw [e]; exact List.mem_append_left _ hx
  have hup : (popW (bad g v k) held).Pairwise (· < ·) := by have := I.up; rw [e] at this; exact (List.pairwise_append.mp this).1
  have hst : (popW (bad g v k) held).Pairwise (fun a b => sg g (v a) < sg g (v b)) := by have := I.st; rw [e] at this; exact (List.pairwise_append.mp this).1
  have hlt : ∀ x ∈ popW (bad g v k) held, sg g (v x) < sg g (v k) := by
    intro x hx
    rcases List.eq_nil_or_concat (popW (bad g v k) held) with h | ⟨m, y, h⟩
    · rw [h] at hx; cases hx
    · rw [List.concat_eq_append] at h
      have hy : ¬ sg g (v k) ≤ sg g (v y) := by have := hl m y h; simpa [bad] using this
      rw [h] at hx
      rcases List.mem_append.mp hx with hx | hx
      · have := last_max hst h x hx; omega
      · simp at hx; subst hx; omega
  have m_up : (mid g v k held).Pairwise (· < ·) := by
    unfold mid
    refine List.pairwise_append.mpr ⟨hup, by simp, fun a ha b hb => ?_⟩
    simp at hb; subst hb
    exact (I.win a (hpre a ha)).1
  have m_st : (mid g v k held).Pairwise (fun a b => sg g (v a) < sg g (v b)) := by
    unfold mid
    refine List.pairwise_append.mpr ⟨hst, by simp, fun a ha b hb => ?_⟩
    simp at hb; subst hb
    exact hlt a ha
  have m_win : ∀ h ∈ mid g v k held, h < k + 1 ∧ k ≤ h + w := by
    intro h hh
    rcases List.mem_append.mp hh with hh | hh
    · have := I.win h (hpre h hh); omega
    · simp at hh; omega
  have m_dom : ∀ j, j < k + 1 → k + 1 ≤ j + w → ∃ h ∈ mid g v k held, j ≤ h ∧ sg g (v h) ≤ sg g (v j) := by
    intro j h1 h2
    by_cases c : j = k
    · subst c; exact ⟨j, by simp [mid], Nat.le_refl _, Int.le_refl _⟩
    · obtain ⟨h, hh, hj, hv⟩ := I.dom j (by omega) (by omega)
      rw [e] at hh
      rcases List.mem_append.mp hh with hh | hh
      · exact ⟨h, List.mem_append_left _ hh, hj, hv⟩
      · have hb := ht h hh
        have hb' : sg g (v k) ≤ sg g (v h) := by simpa [bad] using hb
        exact ⟨k, by simp [mid], by omega, by omega⟩
  obtain ⟨h0, r, hm⟩ : ∃ h0 r, mid g v k held = h0 :: r := by
    unfold mid
    cases popW (bad g v k) held with
    | nil => exact ⟨k, [], rfl⟩
    | cons a b => exact ⟨a, b ++ [k], rfl⟩
  unfold step
  rw [hm]
  rw [hm] at m_up m_st m_win m_dom
  simp only [List.head?_cons, Option.any_some, List.tail_cons]
  have u1 := List.pairwise_cons.mp m_up
  have u2 := List.pairwise_cons.mp m_st
  by_cases hc : h0 + w ≤ k
  · simp only [hc, decide_true, if_true]
    have hk : ∃ h1 r', r = h1 :: r' := by
      cases r with
      | nil =>
        have : k ∈ mid g v k held := by simp [mid]
        rw [hm] at this
        simp at this; omega
      | cons a b => exact ⟨a, b, rfl⟩
    refine ⟨⟨u1.2, fun h hh => ?_, fun j h1 h2 => ?_, u2.2⟩, hk⟩
    · have a1 := m_win h (List.mem_cons_of_mem _ hh)
      have a2 := u1.1 h hh
      have a3 := m_win h0 List.mem_cons_self
      omega
    · obtain ⟨h, hh, hj, hv⟩ := m_dom j h1 h2
      rcases List.mem_cons.mp hh with rfl | hh
      · omega
      · exact ⟨h, hh, hj, hv⟩
  · simp only [hc, decide_false, Bool.false_eq_true, if_false]
    refine ⟨⟨m_up, fun h hh => ?_, m_dom, m_st⟩, h0, r, rfl⟩
    have a1 := m_win h hh
    rcases List.mem_cons.mp hh with rfl | hh
    · omega
    · have a2 := u1.1 h hh
      omega
/-- the first one is the best of the window -/
theorem head_best {g : Bool} {v : Nat → Int} {w k : Nat} {h0 : Nat} {r : List Nat} (I : Inv g v w k (h0 :: r)) : h0 < k ∧ k ≤ h0 + w ∧ ∀ j, j < k → k ≤ j + w → sg g (v h0) ≤ sg g (v j) := by
  have a := I.win h0 List.mem_cons_self
  refine ⟨a.1, a.2, fun j h1 h2 => ?_⟩
  obtain ⟨h, hh, _, hv⟩ := I.dom j h1 h2
  rcases List.mem_cons.mp hh with rfl | hh
  · exact hv
  · have := (List.pairwise_cons.mp I.st).1 h hh
    omega
end Win

namespace Law
open PySem L2 PF
/-! ### lists of places -/
def ixs (hs : List Nat) : List D := hs.map fun (h : Nat) => D.int (h : Int)
theorem ixs_nil : ixs [] = [] := rfl
theorem ixs_cons (h : Nat) (r : List Nat) : ixs (h :: r) = .int (h : Int) :: ixs r := rfl
theorem ixs_app (a b : List Nat) : ixs (a ++ b) = ixs a ++ ixs b := by simp [ixs]
theorem ixs_len (a : List Nat) : (ixs a).length = a.length := by simp [ixs]
theorem up_len : ∀ {l : List Nat} {k : Nat}, l.Pairwise (· < ·) → (∀ x ∈ l, x < k) → l.length ≤ k := by
  intro l
  generalize hn : l.length = n
  induction n generalizing l with
  | zero => intro k _ _; omega
  | succ n ih =>
    intro k hp hk
    rcases List.eq_nil_or_concat l with h | ⟨m, y, h⟩
    · subst h; simp at hn
    · rw [List.concat_eq_append] at h
      subst h
      have h1 := ih (l := m) (by simpa using hn) (k := y) (List.pairwise_append.mp hp).1 (fun x hx => (List.pairwise_append.mp hp).2.2 x hx y (by simp))
      have h2 := hk y (by simp)
      omega
theorem ixs_ints (hs : List Nat) : ixs hs = (hs.map fun (h : Nat) => (h : Int)).map D.int := by simp [ixs]
theorem shaped_ints (ns : List Int) : SeqAt.shaped (.list (ns.map PyData.int)) = true := by
  unfold SeqAt.shaped
  have : PyData.depthAll (ns.map PyData.int) = 0 := by
    induction ns with
    | nil => rfl
    | cons n ns ih => simp only [List.map_cons, PyData.depthAll, PyData.depth, ih]; rfl
  simp only [PyData.canLay0, canLay_ints, PyData.depth, Bool.true_and, decide_eq_true_eq, this]
  decide
theorem ne_nil_ref {S : So} {n : Nat} {ns : List Int} (h : S[n]? = some (.lst (ns.map D.int))) : gNe (.ref n) (.lst []) S = some (.bl (!decide (ns = [])), S) := by
  have h1 := pds_ints ns
  simp only [gNe, eqD, pdOf, h, h1, pd0, pds]
  rw [if_pos ⟨shaped_ints ns, rfl⟩]
  simp only [PyData.eqv]
  have := eqvAll_ints ns []
  simp only [List.map_nil] at this
  rw [this]
theorem at_get {α : Type} {xs : List α} {j : Nat} {v : α} (h : xs[j]? = some v) : atI xs (j : Int) = some v := atI_nat h
/-! ### windows -/
section windows
variable {S : So} {ns : List Int} {w : Int} {g : Bool} {k one : Int} {found : List Int} {C CK : Addr}
def vv (ns : List Int) (i : Nat) : Int := ns.getD i 0
theorem vv_get {i : Nat} (h : i < ns.length) : (ns.map D.int)[i]? = some (.int (vv ns i)) := by
  simp [vv, h]
/-- one turn of the while -/
theorem win_pop (n : Nat) : ∀ (held : List Nat), (∀ h ∈ held, h < ns.length) → held.length < n →
    fWhile (f_windows_c2 C (F_check_key CK)) (f_windows_b2 C (F_check_key CK)) n [some (.lst (ns.map D.int)), some (.int w), some (.bl g), some (.ref S.length), some (.ref (S.length + 1)), some (.int k), some (.int one)] (S ++ [.lst (ixs held), .lst (found.map D.int)])
      = .nx [some (.lst (ns.map D.int)), some (.int w), some (.bl g), some (.ref S.length), some (.ref (S.length + 1)), some (.int k), some (.int one)] (S ++ [.lst (ixs (Win.popW (fun h => decide (Win.sg g one ≤ Win.sg g (vv ns h))) held)), .lst (found.map D.int)]) := by
  induction n with
  | zero => intro held _ h; omega
  | succ n ih =>
    intro held hh hn
    rcases List.eq_nil_or_concat held with h | ⟨m, y, h⟩
    · subst h
      rw [ixs_nil]
      have e := ne_nil_ref (S := S ++ [.lst [], .lst (found.map D.int)]) (n := S.length) (ns := []) (by simp)
      exact while_false (by simp [f_windows_c2, e, sizeLine_val, Win.popW_nil, ixs_nil])
    · rw [List.concat_eq_append] at h
      subst h
      have e := ne_nil_ref (S := S ++ [.lst (ixs (m ++ [y])), .lst (found.map D.int)]) (n := S.length) (ns := (m ++ [y]).map fun (h : Nat) => (h : Int)) (by simp [ixs])
      have hy : y < ns.length := hh y (by simp)
      have a1 : atI (ixs (m ++ [y])) (-1) = some (.int y) := by simp only [ixs, List.map_append, List.map_cons, List.map_nil]; exact atI_last _ _
      have a2 : atI (ns.map D.int) (y : Int) = some (.int (vv ns y)) := at_get (vv_get hy)
      have ihm := ih m (fun h q => hh h (by simp [q])) (by simp at hn; omega)
      have a3 : (ixs (m ++ [y])).dropLast = ixs m := by simp [ixs]
      have a4 : (ixs (m ++ [y]))[(ixs (m ++ [y])).length - 1]? = some (.int y) := by simp [ixs]
      generalize hE : ixs (m ++ [y]) = E at e a1 a3 a4
      have hne : ((m ++ [y]).map fun (h : Nat) => (h : Int)) ≠ [] := by simp
      rw [Win.popW_concat]
      by_cases c : Win.sg g one ≤ Win.sg g (vv ns y)
      · simp only [c, decide_true, if_true]
        rw [← ihm]
        refine while_true (S1 := S ++ [.lst E, .lst (found.map D.int)]) ?_ ?_
        · cases g with
          | true => have c' : vv ns y ≤ one := by simp [Win.sg] at c; omega
                    simp [f_windows_c2, e, sizeLine_val, a1, a2, c', hne]
          | false => have c' : one ≤ vv ns y := by simp [Win.sg] at c; omega
                     simp [f_windows_c2, e, sizeLine_val, a1, a2, c', hne]
        · simp [f_windows_b2, a3, a4]
      · simp only [c, decide_false, Bool.false_eq_true, if_false, hE]
        refine while_false ?_
        cases g with
        | true => have c' : ¬ vv ns y ≤ one := by simp [Win.sg] at c; omega
                  simp [f_windows_c2, e, sizeLine_val, a1, a2, c', hne]
        | false => have c' : ¬ one ≤ vv ns y := by simp [Win.sg] at c; omega
                   simp [f_windows_c2, e, sizeLine_val, a1, a2, c', hne]
/-- the best of a row -/
def bestI (g : Bool) (xs : List Int) : Int := if g then mostI xs else leastI xs
theorem bestI_eq {g : Bool} {xs : List Int} {x : Int} (hx : x ∈ xs) (h : ∀ y ∈ xs, Win.sg g x ≤ Win.sg g y) : bestI g xs = x := by
  have hne : xs ≠ [] := fun q => by rw [q] at hx; cases hx
  cases g with
  | true =>
    have a := mostI_spec hne
    have b := h _ a.1
    have c := a.2 x hx
    simp [Win.sg] at b
    simp only [bestI, if_true]
    omega
  | false =>
    have a := leastI_spec hne
    have b := h _ a.1
    have c := a.2 x hx
    simp [Win.sg] at b
    simp only [bestI, Bool.false_eq_true, if_false]
    omega
def wins (g : Bool) (ns : List Int) (w k : Nat) : List Int := (List.range (k + 1 - w)).map fun (i : Nat) => bestI g ((ns.drop i).take w)
def okKeys (ns : List Int) : Prop := ∀ n ∈ ns, -1000000000 ≤ n ∧ n ≤ 1000000000
theorem mem_win {ns : List Int} {i w : Nat} {y : Int} : y ∈ (ns.drop i).take w ↔ ∃ j, i ≤ j ∧ j < i + w ∧ j < ns.length ∧ y = vv ns j := by
  constructor
  · intro h
    obtain ⟨k, hk⟩ := List.getElem?_of_mem h
    rw [List.getElem?_take] at hk
    split at hk
    · rw [List.getElem?_drop] at hk
      have hl := (List.getElem?_eq_some_iff.mp hk).1
      refine ⟨i + k, by omega, by omega, hl, ?_⟩
      simp [vv, hk]
    · cases hk
  · rintro ⟨j, h1, h2, h3, rfl⟩
    refine List.mem_of_getElem? (i := j - i) ?_
    rw [List.getElem?_take, if_pos (by omega), List.getElem?_drop, show i + (j - i) = j by omega]
    simp [vv, h3]
theorem win_turn {held : List Nat} {ki : Nat} {wn : Nat} (hk : ki < ns.length) (hw : 1 ≤ wn) (hl : ns.length ≤ 1000) (hok : okKeys ns) (I : Win.Inv g (vv ns) wn ki held) (o5 o6 : Option D) :
    ∃ held', Win.Inv g (vv ns) wn (ki + 1) held' ∧ f_windows_b1 C (F_check_key CK) [some (.lst (ns.map D.int)), some (.int (wn : Int)), some (.bl g), some (.ref S.length), some (.ref (S.length + 1)), some (.int (ki : Int)), some (.int (vv ns ki))] (S ++ [.lst (ixs held), .lst ((wins g ns wn ki).map D.int)])
      = .nx [some (.lst (ns.map D.int)), some (.int (wn : Int)), some (.bl g), some (.ref S.length), some (.ref (S.length + 1)), some (.int (ki : Int)), some (.int (vv ns ki))] (S ++ [.lst (ixs held'), .lst ((wins g ns wn (ki + 1)).map D.int)]) := by
  obtain ⟨I', h0, r, hst⟩ := Win.inv_step hw I
  refine ⟨_, I', ?_⟩
  have hlt : ∀ h ∈ held, h < ns.length := fun h hh => by have := I.win h hh; omega
  have hll : held.length ≤ ki := up_len I.up fun x hx => (I.win x hx).1
  have hp := win_pop (S := S) (ns := ns) (w := (wn : Int)) (g := g) (k := (ki : Int)) (one := vv ns ki) (found := wins g ns wn ki) (C := C) (CK := CK) 100000 held hlt (by omega)
  have hkey : F_check_key CK [.int (vv ns ki)] (S ++ [.lst (ixs held), .lst ((wins g ns wn ki).map D.int)]) = .ok .non (S ++ [.lst (ixs held), .lst ((wins g ns wn ki).map D.int)]) := by
    have : vv ns ki ∈ ns := by simp [vv, hk]
    simp only [F_check_key]
    rw [if_pos (hok _ this)]
  -- behind the while and the append
  have hmid : Win.popW (fun h => decide (Win.sg g (vv ns ki) ≤ Win.sg g (vv ns h))) held ++ [ki] = Win.mid g (vv ns) ki held := rfl
  have hpl : (Win.popW (fun h => decide (Win.sg g (vv ns ki) ≤ Win.sg g (vv ns h))) held).length < 16777216 := by
    obtain ⟨t, e, _⟩ := Win.popW_spec (fun h => decide (Win.sg g (vv ns ki) ≤ Win.sg g (vv ns h))) held
    have := congrArg List.length e
    simp at this
    omega
  generalize hP : Win.popW (fun h => decide (Win.sg g (vv ns ki) ≤ Win.sg g (vv ns h))) held = P at hp hmid hpl
  obtain ⟨m0, mr, hm⟩ : ∃ h0 r, P ++ [ki] = h0 :: r := by
    cases P with
    | nil => exact ⟨ki, [], rfl⟩
    | cons a b => exact ⟨a, b ++ [ki], rfl⟩
  have hixm : ixs P ++ [.int (ki : Int)] = .int (m0 : Int) :: ixs mr := by
    have := congrArg ixs hm
    rw [ixs_app] at this
    exact this
  have hwl : (wins g ns wn ki).length < 16777216 := by simp [wins]; omega
  have hstep : Win.step g (vv ns) wn ki held = if m0 + wn ≤ ki then mr else m0 :: mr := by
    unfold Win.step
    rw [← hmid, hm]
    simp only [List.head?_cons, Option.any_some, List.tail_cons, decide_eq_true_eq]
  -- the best one
  have hb := Win.head_best (by rw [hst] at I'; exact I')
  have hwin : wins g ns wn (ki + 1) = if wn ≤ ki + 1 then wins g ns wn ki ++ [vv ns h0] else wins g ns wn ki := by
    split
    · rename_i c
      unfold wins
      rw [show ki + 1 + 1 - wn = (ki + 1 - wn) + 1 by omega, List.range_succ, List.map_append]
      congr 1
      simp only [List.map_cons, List.map_nil]
      rw [bestI_eq (x := vv ns h0)]
      · exact mem_win.mpr ⟨h0, by omega, by omega, by omega, rfl⟩
      · intro y hy
        obtain ⟨j, j1, j2, j3, rfl⟩ := mem_win.mp hy
        exact hb.2.2 j (by omega) (by omega)
    · rename_i c
      unfold wins
      rw [show ki + 1 + 1 - wn = 0 by omega, show ki + 1 - wn = 0 by omega]
  have h0l : h0 < ns.length := by omega
  have a2 : atI (ns.map D.int) (h0 : Int) = some (.int (vv ns h0)) := at_get (vv_get h0l)
  by_cases c1 : m0 + wn ≤ ki
  · rw [if_pos c1] at hstep
    rw [hstep] at hst
    rw [hstep, hst, hwin]
    subst hst
    have c1' : (m0 : Int) ≤ (ki : Int) - (wn : Int) := by omega
    by_cases c2 : wn ≤ ki + 1
    · have c2' : (wn : Int) - 1 ≤ (ki : Int) := by omega
      rw [if_pos c2]
      simp [f_windows_b1, hkey, hp, ixs_len, hpl, sizeLine_val, hixm, atI0, c1', ixN, ixs_cons, c2', a2, hwl]
    · have c2' : ¬ (wn : Int) - 1 ≤ (ki : Int) := by omega
      rw [if_neg c2]
      simp [f_windows_b1, hkey, hp, ixs_len, hpl, sizeLine_val, hixm, atI0, c1', ixN, ixs_cons, c2', a2, hwl]
  · rw [if_neg c1] at hstep
    rw [hstep] at hst
    rw [hstep, hwin]
    cases hst
    have c1' : ¬ (h0 : Int) ≤ (ki : Int) - (wn : Int) := by omega
    by_cases c2 : wn ≤ ki + 1
    · have c2' : (wn : Int) - 1 ≤ (ki : Int) := by omega
      rw [if_pos c2]
      simp [f_windows_b1, hkey, hp, ixs_len, hpl, sizeLine_val, hixm, atI0, c1', ixN, ixs_cons, c2', a2, hwl]
    · have c2' : ¬ (wn : Int) - 1 ≤ (ki : Int) := by omega
      rw [if_neg c2]
      simp [f_windows_b1, hkey, hp, ixs_len, hpl, sizeLine_val, hixm, atI0, c1', ixN, ixs_cons, c2', a2, hwl]
theorem enum_drop : ∀ (ns : List Int) (k : Nat), enumD k (ns.map D.int) = (List.range ns.length).map fun (i : Nat) => D.tup [.int ((k + i : Nat) : Int), .int (vv ns i)]
  | [], k => rfl
  | n :: ns, k => by
    simp only [List.map_cons, enumD, List.length_cons, List.range_succ_eq_map, List.map_map]
    rw [enum_drop ns (k + 1)]
    congr 1
    apply List.map_congr_left
    intro i _
    simp [vv]
    omega
/-- all turns -/
theorem win_all {wn : Nat} (hw : 1 ≤ wn) (hl : ns.length ≤ 1000) (hok : okKeys ns) : ∀ (m ki : Nat) (held : List Nat) (o5 o6 : Option D), ki + m = ns.length → Win.Inv g (vv ns) wn ki held →
    ∃ held' p5 p6, forL (gtTup 2 (gtCons (gtName 5) (gtCons (gtName 6) (gtNil)))) (f_windows_b1 C (F_check_key CK)) ((List.range' ki m).map fun (i : Nat) => D.tup [.int (i : Int), .int (vv ns i)]) [some (.lst (ns.map D.int)), some (.int (wn : Int)), some (.bl g), some (.ref S.length), some (.ref (S.length + 1)), o5, o6] (S ++ [.lst (ixs held), .lst ((wins g ns wn ki).map D.int)])
      = .nx [some (.lst (ns.map D.int)), some (.int (wn : Int)), some (.bl g), some (.ref S.length), some (.ref (S.length + 1)), p5, p6] (S ++ [.lst (ixs held'), .lst ((wins g ns wn ns.length).map D.int)])
  | 0, ki, held, o5, o6, h, I => by
    have : ki = ns.length := by omega
    subst this
    exact ⟨held, o5, o6, rfl⟩
  | m + 1, ki, held, o5, o6, h, I => by
    obtain ⟨held', I', e⟩ := win_turn (S := S) (C := C) (CK := CK) (by omega) hw hl hok I o5 o6
    obtain ⟨h2, p5, p6, e2⟩ := win_all hw hl hok m (ki + 1) held' (some (.int (ki : Int))) (some (.int (vv ns ki))) (by omega) I'
    refine ⟨h2, p5, p6, ?_⟩
    rw [List.range'_succ, List.map_cons, ← e2]
    exact for_cons (by simp) e
def F_windows (C : Addr) : FN := fun ds S => match ds with
  | [.lst xs, .int w, .bl g] => match intsOf xs with
    | some ns => if w < 1 then .ex C S else if ns.length ≤ 1000 ∧ ns.all (fun n => decide (-1000000000 ≤ n ∧ n ≤ 1000000000)) = true then .ok (.tup ((wins g ns w.toNat ns.length).map D.int)) S else .no
    | none => .no
  | _ => .no
theorem eq_windows (CK C : Addr) (ds : List D) (S : So) (hl : ds.length = 3) (hc : clS S) (hd : clDs S.length ds) : RetOk S (f_windows C (F_check_key CK) (startD ["row", "wide", "greatest", "held", "found", "k", "one"] ds) S) (F_windows C ds S) := by
  unfold F_windows
  split
  · rename_i xs w g
    split
    · rename_i ns hx
      have hxe := intsOf_eq hx
      subst hxe
      split
      · rename_i hw
        have e : f_windows C (F_check_key CK) (startD ["row", "wide", "greatest", "held", "found", "k", "one"] [.lst (ns.map D.int), .int w, .bl g]) S = .ex C [some (.lst (ns.map D.int)), some (.int w), some (.bl g), none, none, none, none] S := by
          simp [f_windows, hw]
        rw [e]; exact ret_ex0 hc
      · rename_i hw
        split
        · rename_i hk
          obtain ⟨hk1, hk2⟩ := hk
          have hok : okKeys ns := fun n hn => by simpa using List.all_eq_true.mp hk2 n hn
          have hwn : (w.toNat : Int) = w := by omega
          obtain ⟨held', p5, p6, e2⟩ := win_all (S := S) (ns := ns) (g := g) (C := C) (CK := CK) (wn := w.toNat) (by omega) hk1 hok ns.length 0 [] none none (by omega) (Win.inv0 _ _ _)
          rw [hwn] at e2
          have e3 : enumD 0 (ns.map D.int) = (List.range' 0 ns.length).map fun (i : Nat) => D.tup [.int (i : Int), .int (vv ns i)] := by
            rw [enum_drop, List.range_eq_range']
            apply List.map_congr_left
            intro i _
            simp
          have e4 : (wins g ns w.toNat 0).map D.int = [] := by
            unfold wins
            rw [show 0 + 1 - w.toNat = 0 by omega]
            rfl
          rw [e4, ixs_nil, ← e3] at e2
          have e : f_windows C (F_check_key CK) (startD ["row", "wide", "greatest", "held", "found", "k", "one"] [.lst (ns.map D.int), .int w, .bl g]) S = .rt (.tup ((wins g ns w.toNat ns.length).map D.int)) (S ++ [.lst (ixs held'), .lst ((wins g ns w.toNat ns.length).map D.int)]) := by
            simp [f_windows, hw, sizeLine_val, e2]
          rw [e]
          exact ret_junk hc (by unfold clD; exact clDs_ints _ _)
        · exact ret_no
    · exact ret_no
  · exact ret_no
end windows
end Law

/-! next_greater: the mathematics; the stack with its top first -/
namespace Nxt
def put (f : Nat → Option Nat) (q k : Nat) : Nat → Option Nat := fun i => if i = q then some k else f i
structure Mid (v : Nat → Int) (k b : Nat) (st : List Nat) (f : Nat → Option Nat) : Prop where
  dn : st.Pairwise (· > ·)
  lt : ∀ q ∈ st, q < k
  on : ∀ i ∈ st, f i = none ∧ ∀ j, i < j → j < k → v j ≤ v i
  off : ∀ i, i < k → i ∉ st → ∃ j, f i = some j ∧ i < j ∧ j < b ∧ v i < v j ∧ ∀ m, i < m → m < j → v m ≤ v i
  out : ∀ i, k ≤ i → f i = none
theorem mid0 (v : Nat → Int) : Mid v 0 0 [] (fun _ => none) := ⟨.nil, by simp, by simp, fun i h => by omega, fun _ _ => rfl⟩
def popN (v : Nat → Int) (k : Nat) : List Nat → (Nat → Option Nat) → List Nat × (Nat → Option Nat)
  | [], f => ([], f)
  | q :: r, f => if v q < v k then popN v k r (put f q k) else (q :: r, f)
theorem pop_mid {v : Nat → Int} {k : Nat} : ∀ {st : List Nat} {f : Nat → Option Nat}, Mid v k (k + 1) st f → Mid v k (k + 1) (popN v k st f).1 (popN v k st f).2 ∧ ∀ i ∈ (popN v k st f).1, v k ≤ v i
  | [], f, I => ⟨I, by simp [popN]⟩
  | q :: r, f, I => by
    unfold popN
    have d := List.pairwise_cons.mp I.dn
    split
    · rename_i hq
      refine pop_mid ⟨d.2, fun x hx => I.lt x (List.mem_cons_of_mem _ hx), fun i hi => ?_, fun i hi hn => ?_, fun i hi => ?_⟩
      · have hne : i ≠ q := by have := d.1 i hi; omega
        have := I.on i (List.mem_cons_of_mem _ hi)
        exact ⟨by unfold put; rw [if_neg hne]; exact this.1, this.2⟩
      · by_cases c : i = q
        · subst c
          refine ⟨k, by simp [put], hi, by omega, hq, fun m h1 h2 => (I.on i List.mem_cons_self).2 m h1 h2⟩
        · obtain ⟨j, h1, h2⟩ := I.off i hi (by simp [c, hn])
          exact ⟨j, by unfold put; rw [if_neg c]; exact h1, h2⟩
      · have := I.lt q List.mem_cons_self
        unfold put
        rw [if_neg (by omega)]
        exact I.out i hi
    · rename_i hq
      refine ⟨I, fun i hi => ?_⟩
      rcases List.mem_cons.mp hi with rfl | hi
      · omega
      · have h1 := d.1 i hi
        have h2 := (I.on i (List.mem_cons_of_mem _ hi)).2 q h1 (I.lt q List.mem_cons_self)
        omega
theorem mid_up {v : Nat → Int} {k : Nat} {st : List Nat} {f : Nat → Option Nat} (I : Mid v k k st f) : Mid v k (k + 1) st f :=
  ⟨I.dn, I.lt, I.on, fun i h1 h2 => by
    obtain ⟨j, a, b, c, d⟩ := I.off i h1 h2
    exact ⟨j, a, b, by omega, d⟩, I.out⟩
theorem push_mid {v : Nat → Int} {k : Nat} {st : List Nat} {f : Nat → Option Nat} (I : Mid v k (k + 1) st f) (h : ∀ i ∈ st, v k ≤ v i) : Mid v (k + 1) (k + 1) (k :: st) f := by
  refine ⟨List.pairwise_cons.mpr ⟨fun x hx => I.lt x hx, I.dn⟩, fun q hq => ?_, fun i hi => ?_, fun i hi hn => ?_, fun i hi => I.out i (by omega)⟩
  · rcases List.mem_cons.mp hq with rfl | hq
    · omega
    · have := I.lt q hq; omega
  · rcases List.mem_cons.mp hi with rfl | hi2
    · exact ⟨I.out i (Nat.le_refl _), fun j h1 h2 => by omega⟩
    · refine ⟨(I.on i hi2).1, fun j h1 h2 => ?_⟩
      by_cases c : j = k
      · rw [c]; exact h i hi2
      · exact (I.on i hi2).2 j h1 (by omega)
  · simp at hn
    obtain ⟨j, a⟩ := I.off i (by omega) hn.2
    exact ⟨j, a⟩
/-- the next greater one -/
def nxt (v : Nat → Int) (n i : Nat) : Option Nat := (List.range' (i + 1) (n - (i + 1))).find? fun j => decide (v i < v j)
theorem mid_end {v : Nat → Int} {n : Nat} {st : List Nat} {f : Nat → Option Nat} (I : Mid v n n st f) (i : Nat) (hi : i < n) : f i = nxt v n i := by
  unfold nxt
  by_cases c : i ∈ st
  · obtain ⟨h1, h2⟩ := I.on i c
    rw [h1]
    symm
    rw [List.find?_eq_none]
    intro j hj
    rw [List.mem_range'_1] at hj
    have := h2 j (by omega) (by omega)
    simp; omega
  · obtain ⟨j, h1, h2, h3, h4, h5⟩ := I.off i hi c
    rw [h1]
    symm
    rw [List.find?_range'_eq_some]
    refine ⟨by simpa using h4, ?_, fun m h6 h7 => ?_⟩
    · rw [List.mem_range'_1]; omega
    · have := h5 m (by omega) h7
      simp; omega
theorem pop_len (v : Nat → Int) (k : Nat) : ∀ (st : List Nat) (f : Nat → Option Nat), (popN v k st f).1.length ≤ st.length
  | [], f => Nat.le_refl _
  | q :: r, f => by
    unfold popN
    split
    · have := pop_len v k r (put f q k); simp; omega
    · exact Nat.le_refl _
end Nxt

namespace Law
open PySem L2 PF
theorem mul_rep (mu : Bool) (xs : List D) (n : Nat) (S : So) (h : xs.length * n ≤ 16777216) : gMul mu (.lst xs) (.int (n : Int)) S = if (n : Int) < 9223372036854775808 then some (newL mu (List.replicate n xs).flatten S) else none := by
  unfold gMul
  simp only [lsOf_lst]
  rw [sizeLine_val]
  have h1 : ((2 : Int) ^ 63) = 9223372036854775808 := by decide
  rw [h1]
  have h0 : (-9223372036854775808 : Int) ≤ (n : Int) := by omega
  simp only [Int.toNat_natCast, h, h0, true_and, and_true]
/-! ### next_greater -/
section nextg
variable {S : So} {ns : List Int} {k : Nat}
def ofN : Option Nat → D
  | none => .non
  | some j => .int (j : Int)
def fnd (n : Nat) (f : Nat → Option Nat) : List D := (List.range n).map fun i => ofN (f i)
theorem fnd_len (n : Nat) (f : Nat → Option Nat) : (fnd n f).length = n := by simp [fnd]
theorem fnd_set {n q k : Nat} (f : Nat → Option Nat) (h : q < n) : (fnd n f).set q (.int (k : Int)) = fnd n (Nxt.put f q k) := by
  apply List.ext_getElem?
  intro i
  by_cases c : i < n
  · by_cases c2 : q = i
    · subst c2
      rw [List.getElem?_set_self (by simpa [fnd] using h)]
      simp [fnd, Nxt.put, c, ofN]
    · rw [List.getElem?_set_ne c2]
      have c3 : ¬ i = q := fun h => c2 h.symm
      simp [fnd, Nxt.put, c, c3]
  · rw [List.getElem?_eq_none (by simp [fnd]; omega), List.getElem?_eq_none (by simp [fnd]; omega)]
def upE (ns : List Int) (a b : Nat) (k : Nat) : En := [some (.lst (ns.map D.int)), some (.ref a), some (.ref b), some (.int (k : Int)), some (.int (vv ns k))]
theorem ng_pop (n : Nat) : ∀ (st : List Nat) (f : Nat → Option Nat), (∀ h ∈ st, h < ns.length) → st.length < n →
    fWhile f_next_greater_c2 f_next_greater_b2 n (upE ns S.length (S.length + 1) k) (S ++ [.lst (fnd ns.length f), .lst (ixs st.reverse)])
      = .nx (upE ns S.length (S.length + 1) k) (S ++ [.lst (fnd ns.length (Nxt.popN (vv ns) k st f).2), .lst (ixs (Nxt.popN (vv ns) k st f).1.reverse)]) := by
  induction n with
  | zero => intro st f _ h; omega
  | succ n ih =>
    intro st f hh hn
    cases st with
    | nil =>
      have e := ne_nil_ref (S := S ++ [.lst (fnd ns.length f), .lst []]) (n := S.length + 1) (ns := []) (by simp)
      exact while_false (by simp [f_next_greater_c2, e, sizeLine_val, ixs_nil, upE, Nxt.popN])
    | cons q r =>
      have hq : q < ns.length := hh q (by simp)
      have e := ne_nil_ref (S := S ++ [.lst (fnd ns.length f), .lst (ixs (q :: r).reverse)]) (n := S.length + 1) (ns := ((q :: r).reverse).map fun (h : Nat) => (h : Int)) (by simp [ixs])
      have hE : ixs (q :: r).reverse = ixs r.reverse ++ [.int (q : Int)] := by simp [ixs]
      have a1 : atI (ixs (q :: r).reverse) (-1) = some (.int q) := by rw [hE]; exact atI_last _ _
      have a2 : atI (ns.map D.int) (q : Int) = some (.int (vv ns q)) := at_get (vv_get hq)
      have a3 : (ixs (q :: r).reverse).dropLast = ixs r.reverse := by rw [hE]; simp
      have a4 : (ixs (q :: r).reverse)[(ixs (q :: r).reverse).length - 1]? = some (.int q) := by rw [hE]; simp
      have a5 : ixN ns.length (q : Int) = some q := by simp [ixN]; omega
      have hne : ((q :: r).reverse.map fun (h : Nat) => (h : Int)) ≠ [] := by simp
      have ihm := ih r (Nxt.put f q k) (fun h q => hh h (by simp [q])) (by simp at hn; omega)
      generalize hG : ixs (q :: r).reverse = E at e a1 a3 a4
      unfold Nxt.popN
      by_cases c : vv ns q < vv ns k
      · simp only [c, if_true]
        rw [← ihm]
        refine while_true (S1 := S ++ [.lst (fnd ns.length f), .lst E]) ?_ ?_
        · simp [f_next_greater_c2, e, sizeLine_val, a1, a2, c, hne, upE]
        · simp [f_next_greater_b2, upE, a4, a3, fnd_len, a5, fnd_set f hq]
      · simp only [c, if_false, hG]
        refine while_false ?_
        simp [f_next_greater_c2, e, sizeLine_val, a1, a2, c, hne, upE]
theorem dn_len {st : List Nat} {k : Nat} (h : st.Pairwise (· > ·)) (hk : ∀ x ∈ st, x < k) : st.length ≤ k := by
  have := up_len (l := st.reverse) (k := k) (by simpa [List.pairwise_reverse] using h) (fun x hx => hk x (by simpa using hx))
  simpa using this
theorem ng_turn {st : List Nat} {f : Nat → Option Nat} (hk : k < ns.length) (hl : ns.length ≤ 1000) (I : Nxt.Mid (vv ns) k k st f) :
    ∃ st' f', Nxt.Mid (vv ns) (k + 1) (k + 1) st' f' ∧ f_next_greater_b1 (upE ns S.length (S.length + 1) k) (S ++ [.lst (fnd ns.length f), .lst (ixs st.reverse)]) = .nx (upE ns S.length (S.length + 1) k) (S ++ [.lst (fnd ns.length f'), .lst (ixs st'.reverse)]) := by
  have hlen := dn_len I.dn I.lt
  have P := Nxt.pop_mid (Nxt.mid_up I)
  refine ⟨_, _, Nxt.push_mid P.1 P.2, ?_⟩
  have hp := ng_pop (S := S) (ns := ns) (k := k) 100000 st f (fun h hh => by have := I.lt h hh; omega) (by omega)
  have hpl := Nxt.pop_len (vv ns) k st f
  generalize Nxt.popN (vv ns) k st f = p at hp hpl
  have h9 : p.1.length < 16777216 := by omega
  simp only [f_next_greater_b1, fSeq_eq, hp, seq_nx]
  simp [upE, ixs_len, sizeLine_val, h9]
  simp [ixs]
theorem ng_all (hl : ns.length ≤ 1000) : ∀ (m ki : Nat) (st : List Nat) (f : Nat → Option Nat) (o3 o4 : Option D), ki + m = ns.length → Nxt.Mid (vv ns) ki ki st f →
    ∃ st' f' p3 p4, Nxt.Mid (vv ns) ns.length ns.length st' f' ∧ forL (gtTup 2 (gtCons (gtName 3) (gtCons (gtName 4) (gtNil)))) f_next_greater_b1 ((List.range' ki m).map fun (i : Nat) => D.tup [.int (i : Int), .int (vv ns i)]) [some (.lst (ns.map D.int)), some (.ref S.length), some (.ref (S.length + 1)), o3, o4] (S ++ [.lst (fnd ns.length f), .lst (ixs st.reverse)])
      = .nx [some (.lst (ns.map D.int)), some (.ref S.length), some (.ref (S.length + 1)), p3, p4] (S ++ [.lst (fnd ns.length f'), .lst (ixs st'.reverse)])
  | 0, ki, st, f, o3, o4, h, I => by
    have : ki = ns.length := by omega
    subst this
    exact ⟨st, f, o3, o4, I, rfl⟩
  | m + 1, ki, st, f, o3, o4, h, I => by
    obtain ⟨s1, f1, I', e⟩ := ng_turn (S := S) (by omega) hl I
    obtain ⟨s2, f2, p3, p4, I2, e2⟩ := ng_all hl m (ki + 1) s1 f1 (some (.int (ki : Int))) (some (.int (vv ns ki))) (by omega) I'
    refine ⟨s2, f2, p3, p4, I2, ?_⟩
    rw [List.range'_succ, List.map_cons, ← e2]
    exact for_cons (by simp [upE]) e
def nexts (ns : List Int) : List D := fnd ns.length (Nxt.nxt (vv ns) ns.length)
def F_next_greater : FN := fun ds S => match ds with
  | [.lst xs] => match intsOf xs with
    | some ns => if ns.length ≤ 1000 then .ok (.tup (nexts ns)) S else .no
    | none => .no
  | _ => .no
theorem clDs_fnd (m n : Nat) (f : Nat → Option Nat) : clDs m (fnd n f) := by
  unfold fnd
  induction (List.range n) with
  | nil => simp only [List.map_nil, clDs]
  | cons a l ih =>
    simp only [List.map_cons, clDs]
    refine ⟨?_, ih⟩
    cases f a <;> simp only [ofN, clD]
theorem fnd0 (n : Nat) : fnd n (fun _ => none) = List.replicate n .non := by
  unfold fnd ofN
  rw [List.map_const']; simp
theorem flat1 (n : Nat) : (List.replicate n [D.non]).flatten = List.replicate n D.non := by simp
theorem nones_eq {en : En} {S : So} {ns : List Int} (h0 : en[0]? = some (some (.lst (ns.map D.int)))) (hs : ns.length ≤ 1000) :
    fOp (gMul true) (fLst false (fCons (fC .non) (fNil))) (fCB gLen (fCons (fVar 0) (fNil))) en S = .ok (.ref S.length) (S ++ [.lst (List.replicate ns.length .non)]) := by
  have z1 : [D.non].length ≤ sizeLine := small_le (by decide)
  have hs1 : [D.non].length * ns.length ≤ 16777216 := by simp; omega
  have g1 := mul_rep true [.non] ns.length S hs1
  have hs3 : (ns.length : Int) < 9223372036854775808 := by omega
  rw [flat1, if_pos hs3] at g1
  have a1 : fLst false (fCons (fC .non) (fNil)) en S = .ok (.lst [.non]) S := by
    rw [fLst_eq, fCons_eq, fC_eq, bind_ok, fNil_eq, bind_ok, bind_ok, if_pos z1, newL_f, ofO_some]
  have a2 : fCB gLen (fCons (fVar 0) (fNil)) en S = .ok (.int (ns.length : Int)) S := by
    rw [fCB_eq, fCons_eq, fVar_eq, h0, valO_some, bind_ok, fNil_eq, bind_ok, bind_ok, gLen_lst, ofO_some, List.length_map]
  rw [fOp_eq, a1, bind_ok, a2, bind_ok, g1, newL_t, ofO_some]
theorem eq_next_greater (ds : List D) (S : So) (hl : ds.length = 1) (hc : clS S) (hd : clDs S.length ds) : RetOk S (f_next_greater (startD ["row", "found", "waiting", "k", "one"] ds) S) (F_next_greater ds S) := by
  unfold F_next_greater
  split
  · rename_i xs
    split
    · rename_i ns hx
      have hxe := intsOf_eq hx
      subst hxe
      split
      · rename_i hk
        obtain ⟨st', f', p3, p4, I, e2⟩ := ng_all (S := S) hk ns.length 0 [] (fun _ => none) none none (by omega) (Nxt.mid0 _)
        have e3 : enumD 0 (ns.map D.int) = (List.range' 0 ns.length).map fun (i : Nat) => D.tup [.int (i : Int), .int (vv ns i)] := by
          rw [enum_drop, List.range_eq_range']
          apply List.map_congr_left
          intro i _
          simp
        have e4 := fnd0 ns.length
        have e5 : fnd ns.length f' = nexts ns := by
          unfold nexts fnd
          apply List.map_congr_left
          intro i hi
          rw [Nxt.mid_end I i (by simpa using hi)]
        rw [e4, ← e3, e5] at e2
        simp only [List.reverse_nil, ixs_nil] at e2
        have hs1 : ns.length ≤ 16777216 := by omega
        have e : f_next_greater (startD ["row", "found", "waiting", "k", "one"] [.lst (ns.map D.int)]) S = .rt (.tup (nexts ns)) (S ++ [.lst (nexts ns), .lst (ixs st'.reverse)]) := by
          have g1 := nones_eq (en := [some (.lst (ns.map D.int)), none, none, none, none]) (S := S) (ns := ns) rfl hk
          generalize hq : fOp (gMul true) (fLst false (fCons (fC .non) (fNil))) (fCB gLen (fCons (fVar 0) (fNil))) = q at g1
          simp [f_next_greater, hq, g1, sizeLine_val, e2, -fOp_eq]
        rw [e]
        exact ret_junk hc (by unfold clD; exact clDs_fnd _ _ _)
      · exact ret_no
    · exact ret_no
  · exact ret_no
end nextg
end Law

/-! widest: the mathematics; the stack with its top first -/
namespace Wd
abbrev B := Int × Nat × Nat
def ge (a b : B) : Prop := b.1 < a.1 ∨ (a.1 = b.1 ∧ (a.2.1 < b.2.1 ∨ (a.2.1 = b.2.1 ∧ a.2.2 ≤ b.2.2)))
theorem ge_refl (a : B) : ge a a := .inr ⟨rfl, .inr ⟨rfl, Nat.le_refl _⟩⟩
theorem ge_trans {a b c : B} (h : ge a b) (k : ge b c) : ge a c := by unfold ge at *; omega
def lx (a b : B) : Prop := a.2.1 < b.2.1 ∨ (a.2.1 = b.2.1 ∧ a.2.2 < b.2.2)
instance (a b : B) : Decidable (lx a b) := by unfold lx; infer_instance
def upd (b c : B) : B := if b.1 < c.1 ∨ (c.1 = b.1 ∧ lx c b ∧ 0 < c.1) then c else b
theorem upd_pos {b : B} {a : Int} {f k : Nat} (h : b.1 < a ∨ (a = b.1 ∧ (f < b.2.1 ∨ (f = b.2.1 ∧ k < b.2.2)) ∧ 0 < a)) : upd b (a, f, k) = (a, f, k) := if_pos h
theorem upd_neg {b : B} {a : Int} {f k : Nat} (h : ¬ (b.1 < a ∨ (a = b.1 ∧ (f < b.2.1 ∨ (f = b.2.1 ∧ k < b.2.2)) ∧ 0 < a))) : upd b (a, f, k) = b := if_neg h
theorem upd_ge (b c : B) : ge (upd b c) b := by
  unfold upd
  split
  · unfold ge lx at *; omega
  · exact ge_refl _
theorem upd_ge2 (b c : B) (h : 0 < c.1) : ge (upd b c) c := by
  unfold upd
  split
  · exact ge_refl _
  · unfold ge lx at *; omega
def fst : List Nat → Nat
  | [] => 0
  | p :: _ => p + 1
def popB (h : Nat → Int) (k : Nat) : List Nat → B → List Nat × B
  | [], b => ([], b)
  | q :: r, b => if h k ≤ h q then popB h k r (upd b (h q * ((k : Int) - (fst r : Int)), fst r, k)) else (q :: r, b)
/-- a block with its least height -/
def low (h : Nat → Int) (lo hi : Nat) (m : Int) : Prop := lo < hi ∧ (∃ i, lo ≤ i ∧ i < hi ∧ h i = m) ∧ ∀ i, lo ≤ i → i < hi → m ≤ h i
def good (h : Nat → Int) (n : Nat) (b : B) : Prop := b = (0, 0, 0) ∨ (b.2.2 ≤ n ∧ 0 < b.1 ∧ ∃ m, low h b.2.1 b.2.2 m ∧ b.1 = m * ((b.2.2 : Int) - (b.2.1 : Int)))
structure J (h : Nat → Int) (k : Nat) (st : List Nat) : Prop where
  dn : st.Pairwise (· > ·)
  inc : st.Pairwise (fun a b => h b < h a)
  lt : ∀ q ∈ st, q < k
  dom : ∀ i, i < k → (∃ q ∈ st, i ≤ q ∧ h q ≤ h i) ∨ (h k ≤ h i ∧ ∀ q ∈ st, q < i ∧ h q < h i)
/-- what stands right of the next one below -/
theorem J.blk {h : Nat → Int} {k q : Nat} {r : List Nat} (I : J h k (q :: r)) : low h (fst r) k (h q) ∧ (∀ p r', r = p :: r' → h p < h q) := by
  have d := List.pairwise_cons.mp I.dn
  have c := List.pairwise_cons.mp I.inc
  have hq := I.lt q List.mem_cons_self
  have hf : fst r ≤ q := by
    cases r with
    | nil => exact Nat.zero_le _
    | cons p r' => exact d.1 p List.mem_cons_self
  refine ⟨⟨by omega, ⟨q, hf, hq, rfl⟩, fun i h1 h2 => ?_⟩, fun p r' e => c.1 p (by rw [e]; exact List.mem_cons_self)⟩
  rcases I.dom i h2 with ⟨q', m1, m2, m3⟩ | ⟨_, m⟩
  · rcases List.mem_cons.mp m1 with rfl | m1
    · exact m3
    · exfalso
      cases r with
      | nil => cases m1
      | cons p r' =>
        have : q' ≤ p := by
          rcases List.mem_cons.mp m1 with rfl | m1
          · exact Nat.le_refl _
          · exact Nat.le_of_lt ((List.pairwise_cons.mp d.2).1 q' m1)
        simp only [fst] at h1
        omega
  · have := (m q List.mem_cons_self).2; omega
theorem J.pop {h : Nat → Int} {k q : Nat} {r : List Nat} (I : J h k (q :: r)) (hk : h k ≤ h q) : J h k r := by
  have d := List.pairwise_cons.mp I.dn
  have c := List.pairwise_cons.mp I.inc
  refine ⟨d.2, c.2, fun x hx => I.lt x (List.mem_cons_of_mem _ hx), fun i hi => ?_⟩
  rcases I.dom i hi with ⟨q', m1, m2, m3⟩ | ⟨m0, m⟩
  · rcases List.mem_cons.mp m1 with rfl | m1
    · by_cases e : ∃ p ∈ r, i ≤ p
      · obtain ⟨p, hp, hp2⟩ := e
        refine .inl ⟨p, hp, hp2, ?_⟩
        have := c.1 p hp; omega
      · refine .inr ⟨by omega, fun p hp => ⟨?_, ?_⟩⟩
        · by_cases z : p < i
          · exact z
          · exact absurd ⟨p, hp, by omega⟩ e
        · have := c.1 p hp; omega
    · exact .inl ⟨q', m1, m2, m3⟩
  · exact .inr ⟨m0, fun p hp => m p (List.mem_cons_of_mem _ hp)⟩
/-- a block that can grow on neither side -/
def full (h : Nat → Int) (lo hi : Nat) (m : Int) : Prop := low h lo hi m ∧ (∀ p, p + 1 = lo → h p < m) ∧ h hi < m
theorem J.hit {h : Nat → Int} {k q : Nat} {r : List Nat} {lo : Nat} {m : Int} (I : J h k (q :: r)) (f : full h lo k m) (hq : h q = m) (hl : lo ≤ q) : fst r = lo := by
  obtain ⟨⟨b1, b2, b3⟩, b4⟩ := I.blk
  obtain ⟨⟨f1, f2, f3⟩, f4, f5⟩ := f
  have d := List.pairwise_cons.mp I.dn
  have hk := I.lt q List.mem_cons_self
  cases r with
  | nil =>
    show 0 = lo
    by_cases z : lo = 0
    · omega
    · have := f4 (lo - 1) (by omega)
      have := b3 (lo - 1) (Nat.zero_le _) (by omega)
      omega
  | cons p r' =>
    show p + 1 = lo
    have h1 := b4 p r' rfl
    have h2 : p < lo := by
      by_cases z : p < lo
      · exact z
      · have h5 := d.1 p List.mem_cons_self
        have := f3 p (by omega) (by omega)
        omega
    by_cases z : p + 1 = lo
    · exact z
    · have h6 := f4 (lo - 1) (by omega)
      have h7 := b3 (lo - 1) (by simp only [fst]; omega) (by omega)
      omega
/-- the pop phase -/
theorem pop_all {h : Nat → Int} {n k : Nat} (hn : k ≤ n) : ∀ {st : List Nat} {b : B}, J h k st → good h n b →
    J h k (popB h k st b).1 ∧ (∀ q ∈ (popB h k st b).1, h q < h k) ∧ good h n (popB h k st b).2 ∧ ge (popB h k st b).2 b ∧
    ∀ q ∈ st, ∀ lo m, full h lo k m → 0 < m → h q = m → lo ≤ q → ge (popB h k st b).2 (m * ((k : Int) - (lo : Int)), lo, k)
  | [], b, I, G => ⟨I, by simp [popB], G, ge_refl _, by simp⟩
  | q :: r, b, I, G => by
    unfold popB
    split
    · rename_i hk
      have B := I.blk
      have G' : good h n (upd b (h q * ((k : Int) - (fst r : Int)), fst r, k)) := by
        unfold upd
        split
        · rename_i c
          have : 0 < h q * ((k : Int) - (fst r : Int)) := by
            rcases c with c | c
            · have : 0 ≤ b.1 := by
                rcases G with rfl | ⟨_, g, _⟩
                · exact Int.le_refl _
                · omega
              simp only at c
              omega
            · exact c.2.2
          exact .inr ⟨hn, this, h q, B.1, rfl⟩
        · exact G
      obtain ⟨p1, p2, p3, p4, p5⟩ := pop_all hn (I.pop hk) G'
      refine ⟨p1, p2, p3, ge_trans p4 (upd_ge _ _), fun x hx lo m f hm hv hl => ?_⟩
      rcases List.mem_cons.mp hx with rfl | hx
      · have e := I.hit f hv hl
        have pos : 0 < m * ((k : Int) - (lo : Int)) := Int.mul_pos hm (by have := f.1.1; omega)
        refine ge_trans p4 ?_
        rw [e, hv]
        exact upd_ge2 _ _ pos
      · exact p5 x hx lo m f hm hv hl
    · rename_i hk
      have c := List.pairwise_cons.mp I.inc
      refine ⟨I, fun x hx => ?_, G, ge_refl _, fun x hx lo m f hm hv hl => ?_⟩
      · rcases List.mem_cons.mp hx with rfl | hx
        · omega
        · have := c.1 x hx; omega
      · exfalso
        have := f.2.2
        rcases List.mem_cons.mp hx with rfl | hx
        · omega
        · have := c.1 x hx; omega
structure Inv (h : Nat → Int) (n k : Nat) (st : List Nat) (b : B) : Prop where
  dn : st.Pairwise (· > ·)
  inc : st.Pairwise (fun a b => h b < h a)
  lt : ∀ q ∈ st, q < k
  dom : ∀ i, i < k → ∃ q ∈ st, i ≤ q ∧ h q ≤ h i
  ok : good h n b
  all : ∀ lo hi m, hi < k → full h lo hi m → 0 < m → ge b (m * ((hi : Int) - (lo : Int)), lo, hi)
theorem inv0 (h : Nat → Int) (n : Nat) : Inv h n 0 [] (0, 0, 0) := ⟨.nil, .nil, by simp, fun i h => by omega, .inl rfl, fun lo hi m h => by omega⟩
theorem inv_step {h : Nat → Int} {n k : Nat} {st : List Nat} {b : B} (hn : k ≤ n) (I : Inv h n k st b) : Inv h n (k + 1) (k :: (popB h k st b).1) (popB h k st b).2 := by
  have Jk : J h k st := ⟨I.dn, I.inc, I.lt, fun i hi => .inl (I.dom i hi)⟩
  obtain ⟨p1, p2, p3, p4, p5⟩ := pop_all hn Jk I.ok
  refine ⟨List.pairwise_cons.mpr ⟨fun x hx => p1.lt x hx, p1.dn⟩, List.pairwise_cons.mpr ⟨fun x hx => p2 x hx, p1.inc⟩, fun q hq => ?_, fun i hi => ?_, p3, fun lo hi m hh f hm => ?_⟩
  · rcases List.mem_cons.mp hq with rfl | hq
    · omega
    · have := p1.lt q hq; omega
  · by_cases c : i = k
    · exact ⟨k, List.mem_cons_self, by omega, by rw [c]; exact Int.le_refl _⟩
    · rcases p1.dom i (by omega) with ⟨q, a, b1, b2⟩ | ⟨a, _⟩
      · exact ⟨q, List.mem_cons_of_mem _ a, b1, b2⟩
      · exact ⟨k, List.mem_cons_self, by omega, a⟩
  · by_cases c : hi = k
    · subst c
      obtain ⟨⟨f1, ⟨i, f2, f3, f4⟩, f5⟩, _⟩ := id f
      obtain ⟨q, a, b1, b2⟩ := I.dom i f3
      have := I.lt q a
      have := f5 q (by omega) this
      exact p5 q a lo m f hm (by omega) (by omega)
    · exact ge_trans p4 (I.all lo hi m (by omega) f hm)
/-- a block of greatest area cannot grow -/
theorem full_of {h : Nat → Int} {n lo hi : Nat} {m : Int} (hn : hi ≤ n) (hend : h n < 0) (hm : 0 < m) (L : low h lo hi m)
    (mx : ∀ lo' hi' m', hi' ≤ n → low h lo' hi' m' → m' * ((hi' : Int) - (lo' : Int)) ≤ m * ((hi : Int) - (lo : Int))) : full h lo hi m := by
  obtain ⟨l1, ⟨i, l2, l3, l4⟩, l5⟩ := id L
  refine ⟨L, fun p hp => ?_, ?_⟩
  · by_cases c : h p < m
    · exact c
    · exfalso
      have := mx p hi m hn ⟨by omega, ⟨i, by omega, l3, l4⟩, fun j h1 h2 => by
        by_cases e : j = p
        · subst e; omega
        · exact l5 j (by omega) h2⟩
      have e : (hi : Int) - (p : Int) = ((hi : Int) - (lo : Int)) + 1 := by omega
      rw [e, Int.mul_add, Int.mul_one] at this
      omega
  · by_cases z : hi = n
    · subst z; omega
    · by_cases c : h hi < m
      · exact c
      · exfalso
        have := mx lo (hi + 1) m (by omega) ⟨by omega, ⟨i, by omega, by omega, l4⟩, fun j h1 h2 => by
          by_cases e : j = hi
          · subst e; omega
          · exact l5 j h1 (by omega)⟩
        have e : ((hi + 1 : Nat) : Int) - (lo : Int) = ((hi : Int) - (lo : Int)) + 1 := by omega
        rw [e, Int.mul_add, Int.mul_one] at this
        omega
/-- the end -/
theorem fin {h : Nat → Int} {n : Nat} {st : List Nat} {b c : B} (hend : h n < 0) (I : Inv h n (n + 1) st b) (gc : good h n c)
    (mx : ∀ lo' hi' m', hi' ≤ n → low h lo' hi' m' → m' * ((hi' : Int) - (lo' : Int)) ≤ c.1) : b.1 = c.1 ∧ ge b c := by
  have ble : b.1 ≤ c.1 := by
    rcases I.ok with rfl | ⟨g1, g2, m, g3, g4⟩
    · rcases gc with rfl | ⟨_, g, _⟩
      · exact Int.le_refl _
      · exact Int.le_of_lt g
    · have := mx _ _ m g1 g3; omega
  have gg : ge b c := by
    rcases gc with rfl | ⟨g1, g2, m, g3, g4⟩
    · rcases I.ok with rfl | ⟨_, g, _⟩
      · exact ge_refl _
      · exact .inl g
    · have hm : 0 < m := by
        by_cases z : 0 < m
        · exact z
        · exfalso
          have h1 := g3.1
          have : m * ((c.2.2 : Int) - (c.2.1 : Int)) ≤ 0 := Int.mul_nonpos_of_nonpos_of_nonneg (by omega) (by omega)
          omega
      have F := full_of g1 hend hm g3 (fun a b m' x y => by have := mx a b m' x y; omega)
      have := I.all _ _ m (by omega) F hm
      rw [← g4] at this
      exact this
  refine ⟨?_, gg⟩
  unfold ge at gg
  omega
theorem pop_len (h : Nat → Int) (k : Nat) : ∀ (st : List Nat) (b : B), (popB h k st b).1.length ≤ st.length
  | [], b => Nat.le_refl _
  | q :: r, b => by
    unfold popB
    split
    · have := pop_len h k r (upd b (h q * ((k : Int) - (fst r : Int)), fst r, k)); simp; omega
    · exact Nat.le_refl _
end Wd

namespace Law
open PySem L2 PF
/-! ### widest -/
section widest
variable {S : So} {hs : List Int} {k : Nat}
def tD (b : Wd.B) : D := .tup [.int b.1, .int (b.2.1 : Int), .int (b.2.2 : Int)]
def hh (hs : List Int) (k : Nat) : Int := if k < hs.length then vv hs k else -1
theorem sl3 (mu : Bool) (a b c : D) (S : So) : gSl mu (.tup [a, b, c]) (some 1) none S = some (.tup [b, c], S) := rfl
theorem lex2 (a b c d : Int) : HT.lexLt [a, b] [c, d] = decide (a < c ∨ (a = c ∧ b < d)) := by
  simp only [HT.lexLt]
  by_cases h : a = c
  · subst h
    by_cases h2 : b = d
    · subst h2; simp
    · simp [h2]
  · simp [h]
theorem lt2 (a b c d : Int) (S : So) : gLt (.tup [.int a, .int b]) (.tup [.int c, .int d]) S = some (.bl (decide (a < c ∨ (a = c ∧ b < d))), S) := by
  rw [← lex2]; rfl
theorem gt2 (a b c d : Int) (S : So) : gGtA (.tup [.int a, .int b]) (.tup [.int c, .int d]) S = some (.bl (decide (c < a ∨ (c = a ∧ d < b))), S) := by
  rw [← lex2]; rfl
theorem lt2n (a b c d : Nat) (S : So) : gLt (.tup [.int (a : Int), .int (b : Int)]) (.tup [.int (c : Int), .int (d : Int)]) S = some (.bl (decide (a < c ∨ (a = c ∧ b < d))), S) := by
  rw [lt2]
  congr 3
  simp only [decide_eq_decide]
  omega
theorem gt2n (a b c d : Nat) (S : So) : gGtA (.tup [.int (a : Int), .int (b : Int)]) (.tup [.int (c : Int), .int (d : Int)]) S = some (.bl (decide (c < a ∨ (c = a ∧ d < b))), S) := by
  rw [gt2]
  congr 3
  simp only [decide_eq_decide]
  omega
def okH (hs : List Int) : Prop := ∀ n ∈ hs, 0 ≤ n ∧ n ≤ 1000000000
theorem vv_mem {hs : List Int} {i : Nat} (h : i < hs.length) : vv hs i ∈ hs := by simp [vv, h]
theorem cmul_small {a b : Int} (h : 0 ≤ a ∧ a ≤ 1000000000) : cMul a b = true := by
  unfold cMul
  have : ((2 : Int) ^ 64) = 18446744073709551616 := by decide
  rw [this]
  simp only [Bool.or_eq_true, Bool.and_eq_true, decide_eq_true_eq]
  omega
def wE (hs : List Int) (w : Nat) (b : Wd.B) (k : Nat) (o5 o6 o7 : Option D) : En := [some (.lst (hs.map D.int)), some (tD b), some (.ref w), some (.int (k : Int)), some (.int (hh hs k)), o5, o6, o7]
theorem wd_body {q : Nat} {r : List Nat} {b : Wd.B} {o5 o6 o7 : Option D} (hok : okH hs) (hq : q < hs.length) :
    f_widest_b2 (wE hs S.length b k o5 o6 o7) (S ++ [.lst (ixs (q :: r).reverse)]) =
      .nx (wE hs S.length (Wd.upd b (hh hs q * ((k : Int) - (Wd.fst r : Int)), Wd.fst r, k)) k (some (.int (hh hs q))) (some (.int (Wd.fst r : Int))) (some (tD (hh hs q * ((k : Int) - (Wd.fst r : Int)), Wd.fst r, k)))) (S ++ [.lst (ixs r.reverse)]) := by
  have hE : ixs (q :: r).reverse = ixs r.reverse ++ [.int (q : Int)] := by simp [ixs]
  have a2 : atI (hs.map D.int) (q : Int) = some (.int (hh hs q)) := by rw [hh, if_pos hq]; exact at_get (vv_get hq)
  have a3 : (ixs (q :: r).reverse).dropLast = ixs r.reverse := by rw [hE]; simp
  have a4 : (ixs (q :: r).reverse)[(ixs (q :: r).reverse).length - 1]? = some (.int q) := by rw [hE]; simp
  have cm : cMul (hh hs q) ((k : Int) - (Wd.fst r : Int)) = true := cmul_small (by rw [hh, if_pos hq]; exact hok _ (vv_mem hq))
  generalize ixs (q :: r).reverse = E at a3 a4
  have e := ne_nil_ref (S := S ++ [.lst (ixs r.reverse)]) (n := S.length) (ns := (r.reverse).map fun (h : Nat) => (h : Int)) (by simp [ixs])
  have first : (fIf (fTst (fOp gNe (fVar 2) (fLst false (fNil)))) (fOp (gAdd false) (fOp gIx (fVar 2) (fNeg (fC (.int 1)))) (fC (.int 1))) (fC (.int 0))) (wE hs S.length b k (some (.int (hh hs q))) o6 o7) (S ++ [.lst (ixs r.reverse)]) = .ok (.int (Wd.fst r : Int)) (S ++ [.lst (ixs r.reverse)]) := by
    cases r with
    | nil =>
      simp at e
      simp [wE, e, sizeLine_val, Wd.fst]
    | cons p r' =>
      have a1 : atI (ixs (p :: r').reverse) (-1) = some (.int p) := by
        have : ixs (p :: r').reverse = ixs r'.reverse ++ [.int (p : Int)] := by simp [ixs]
        rw [this]; exact atI_last _ _
      have hne : ((p :: r').reverse.map fun (h : Nat) => (h : Int)) ≠ [] := by simp
      simp only [hne, decide_false, Bool.not_false] at e
      generalize ixs (p :: r').reverse = E' at e a1
      simp [wE, e, sizeLine_val, Wd.fst, a1]
  generalize hfi : (fIf (fTst (fOp gNe (fVar 2) (fLst false (fNil)))) (fOp (gAdd false) (fOp gIx (fVar 2) (fNeg (fC (.int 1)))) (fC (.int 1))) (fC (.int 0))) = fi at first
  unfold f_widest_b2
  rw [hfi]
  generalize Wd.fst r = f at first cm
  generalize hh hs q = y at *
  generalize ixs r.reverse = R at *
  simp only [wE, tD] at first ⊢
  by_cases c1 : b.1 < y * ((k : Int) - (f : Int))
  · rw [Wd.upd_pos (.inl c1)]
    simp [a2, a3, a4, first, cm, sizeLine_val, tD, atI0, c1]
  · by_cases c2 : y * ((k : Int) - (f : Int)) = b.1
    · by_cases c3 : (f < b.2.1 ∨ f = b.2.1 ∧ k < b.2.2)
      · have c3' : ((f : Int) < (b.2.1 : Int) ∨ (f : Int) = (b.2.1 : Int) ∧ (k : Int) < (b.2.2 : Int)) := by omega
        by_cases c4 : 0 < y * ((k : Int) - (f : Int))
        · rw [Wd.upd_pos (.inr ⟨c2, c3, c4⟩)]
          rw [c2] at c4
          simp [a2, a3, a4, first, cm, sizeLine_val, tD, atI0, c1, c2, sl3, lt2n, c3, c4]
        · rw [Wd.upd_neg (by omega)]
          rw [c2] at c4
          simp [a2, a3, a4, first, cm, sizeLine_val, tD, atI0, c1, c2, sl3, lt2n, c3, c4]
      · rw [Wd.upd_neg (by omega)]
        simp [a2, a3, a4, first, cm, sizeLine_val, tD, atI0, c1, c2, sl3, lt2n, c3]
    · rw [Wd.upd_neg (by omega)]
      simp [a2, a3, a4, first, cm, sizeLine_val, tD, atI0, c1, c2]
def popAll (hs : List Int) (k : Nat) (st : List Nat) (b : Wd.B) := Wd.popB (hh hs) k st b
theorem wd_pop (hok : okH hs) (n : Nat) : ∀ (st : List Nat) (b : Wd.B) (o5 o6 o7 : Option D), (∀ h ∈ st, h < hs.length) → st.length < n →
    ∃ p5 p6 p7, fWhile f_widest_c2 f_widest_b2 n (wE hs S.length b k o5 o6 o7) (S ++ [.lst (ixs st.reverse)])
      = .nx (wE hs S.length (Wd.popB (hh hs) k st b).2 k p5 p6 p7) (S ++ [.lst (ixs (Wd.popB (hh hs) k st b).1.reverse)]) := by
  induction n with
  | zero => intro st b _ _ _ _ h; omega
  | succ n ih =>
    intro st b o5 o6 o7 hl hn
    cases st with
    | nil =>
      have e := ne_nil_ref (S := S ++ [.lst []]) (n := S.length) (ns := []) (by simp)
      exact ⟨o5, o6, o7, while_false (by simp [f_widest_c2, e, sizeLine_val, ixs_nil, wE, Wd.popB])⟩
    | cons q r =>
      have hq : q < hs.length := hl q (by simp)
      have e := ne_nil_ref (S := S ++ [.lst (ixs (q :: r).reverse)]) (n := S.length) (ns := ((q :: r).reverse).map fun (h : Nat) => (h : Int)) (by simp [ixs])
      have hE : ixs (q :: r).reverse = ixs r.reverse ++ [.int (q : Int)] := by simp [ixs]
      have a1 : atI (ixs (q :: r).reverse) (-1) = some (.int q) := by rw [hE]; exact atI_last _ _
      have a2 : atI (hs.map D.int) (q : Int) = some (.int (hh hs q)) := by rw [hh, if_pos hq]; exact at_get (vv_get hq)
      have hne : ((q :: r).reverse.map fun (h : Nat) => (h : Int)) ≠ [] := by simp
      have hb := wd_body (S := S) (k := k) (r := r) (b := b) (o5 := o5) (o6 := o6) (o7 := o7) hok hq
      have hcond : f_widest_c2 (wE hs S.length b k o5 o6 o7) (S ++ [.lst (ixs (q :: r).reverse)]) = .ok (decide (hh hs k ≤ hh hs q)) (S ++ [.lst (ixs (q :: r).reverse)]) := by
        generalize ixs (q :: r).reverse = E at e a1
        simp [f_widest_c2, e, sizeLine_val, a1, a2, hne, wE]
      unfold Wd.popB
      by_cases c : hh hs k ≤ hh hs q
      · simp only [c, if_true]
        obtain ⟨p5, p6, p7, e2⟩ := ih r (Wd.upd b (hh hs q * ((k : Int) - (Wd.fst r : Int)), Wd.fst r, k)) (some (.int (hh hs q))) (some (.int (Wd.fst r : Int))) (some (tD (hh hs q * ((k : Int) - (Wd.fst r : Int)), Wd.fst r, k))) (fun h q => hl h (by simp [q])) (by simp at hn; omega)
        refine ⟨p5, p6, p7, ?_⟩
        rw [← e2]
        rw [decide_eq_true c] at hcond
        exact while_true hcond hb
      · simp only [c, if_false]
        rw [decide_eq_false c] at hcond
        exact ⟨o5, o6, o7, while_false hcond⟩
def runB (h : Nat → Int) : Nat → List Nat × Wd.B
  | 0 => ([], (0, 0, 0))
  | k + 1 => (k :: (Wd.popB h k (runB h k).1 (runB h k).2).1, (Wd.popB h k (runB h k).1 (runB h k).2).2)
theorem run_inv (h : Nat → Int) (n : Nat) : ∀ k, k ≤ n + 1 → Wd.Inv h n k (runB h k).1 (runB h k).2
  | 0, _ => Wd.inv0 _ _
  | k + 1, hk => Wd.inv_step (by omega) (run_inv h n k (by omega))
theorem wd_all (hok : okH hs) (hl : hs.length ≤ 1000) : ∀ (m ki : Nat) (o3 o4 o5 o6 o7 : Option D), ki + m = hs.length + 1 →
    ∃ p3 p4 p5 p6 p7, forL (gtName 3) f_widest_b1 ((List.range' ki m).map fun (i : Nat) => D.int (i : Int)) [some (.lst (hs.map D.int)), some (tD (runB (hh hs) ki).2), some (.ref S.length), o3, o4, o5, o6, o7] (S ++ [.lst (ixs (runB (hh hs) ki).1.reverse)])
      = .nx [some (.lst (hs.map D.int)), some (tD (runB (hh hs) (hs.length + 1)).2), some (.ref S.length), p3, p4, p5, p6, p7] (S ++ [.lst (ixs (runB (hh hs) (hs.length + 1)).1.reverse)])
  | 0, ki, o3, o4, o5, o6, o7, h => by
    have : ki = hs.length + 1 := by omega
    subst this
    exact ⟨o3, o4, o5, o6, o7, rfl⟩
  | m + 1, ki, o3, o4, o5, o6, o7, h => by
    have I := run_inv (hh hs) hs.length ki (by omega)
    have hlen := dn_len I.dn I.lt
    have hp1 := Wd.pop_len (hh hs) ki (runB (hh hs) ki).1 (runB (hh hs) ki).2
    obtain ⟨q5, q6, q7, e⟩ := wd_pop (S := S) (hs := hs) (k := ki) hok 100000 (runB (hh hs) ki).1 (runB (hh hs) ki).2 o5 o6 o7 (fun h hh => by have := I.lt h hh; omega) (by omega)
    have hb : f_widest_b1 [some (.lst (hs.map D.int)), some (tD (runB (hh hs) ki).2), some (.ref S.length), some (.int (ki : Int)), o4, o5, o6, o7] (S ++ [.lst (ixs (runB (hh hs) ki).1.reverse)])
        = .nx [some (.lst (hs.map D.int)), some (tD (runB (hh hs) (ki + 1)).2), some (.ref S.length), some (.int (ki : Int)), some (.int (hh hs ki)), q5, q6, q7] (S ++ [.lst (ixs (runB (hh hs) (ki + 1)).1.reverse)]) := by
      have h9 : (Wd.popB (hh hs) ki (runB (hh hs) ki).1 (runB (hh hs) ki).2).1.length < 16777216 := by omega
      have hr : runB (hh hs) (ki + 1) = (ki :: (Wd.popB (hh hs) ki (runB (hh hs) ki).1 (runB (hh hs) ki).2).1, (Wd.popB (hh hs) ki (runB (hh hs) ki).1 (runB (hh hs) ki).2).2) := rfl
      rw [hr]
      generalize Wd.popB (hh hs) ki (runB (hh hs) ki).1 (runB (hh hs) ki).2 = P at e h9
      generalize runB (hh hs) ki = R at e
      have step1 : (fAsg (fIf (fTst (fOp gLt (fVar 3) (fCB gLen (fCons (fVar 0) (fNil))))) (fOp gIx (fVar 0) (fVar 3)) (fNeg (fC (.int 1)))) (gtName 4)) [some (.lst (hs.map D.int)), some (tD R.2), some (.ref S.length), some (.int (ki : Int)), o4, o5, o6, o7] (S ++ [.lst (ixs R.1.reverse)]) = .nx (wE hs S.length R.2 ki o5 o6 o7) (S ++ [.lst (ixs R.1.reverse)]) := by
        by_cases c : ki < hs.length
        · have a2 : atI (hs.map D.int) (ki : Int) = some (.int (hh hs ki)) := by rw [hh, if_pos c]; exact at_get (vv_get c)
          simp [c, a2, wE]
        · simp [c, wE, hh]
      unfold f_widest_b1
      rw [fSeq_eq, step1, seq_nx, fSeq_eq, e, seq_nx]
      simp [wE, ixs_len, sizeLine_val, h9]
      simp [ixs]
    obtain ⟨p3, p4, p5, p6, p7, e2⟩ := wd_all hok hl m (ki + 1) (some (.int (ki : Int))) (some (.int (hh hs ki))) q5 q6 q7 (by omega)
    refine ⟨p3, p4, p5, p6, p7, ?_⟩
    rw [List.range'_succ, List.map_cons, ← e2]
    exact for_cons (by simp) hb
def F_widest : FN := fun ds S => match ds with
  | [.lst xs] => match intsOf xs with
    | some hs => if hs.length ≤ 1000 ∧ hs.all (fun n => decide (0 ≤ n ∧ n ≤ 1000000000)) = true then .ok (tD (runB (hh hs) (hs.length + 1)).2) S else .no
    | none => .no
  | _ => .no
theorem rgD_nat (n : Nat) : rgD 0 n = (List.range' 0 n).map fun (i : Nat) => D.int (i : Int) := by
  unfold rgD
  rw [List.range_eq_range']
  simp
theorem eq_widest (ds : List D) (S : So) (hl : ds.length = 1) (hc : clS S) (hd : clDs S.length ds) : RetOk S (f_widest (startD ["heights", "best", "waiting", "k", "height", "high", "first", "here"] ds) S) (F_widest ds S) := by
  unfold F_widest
  split
  · rename_i xs
    split
    · rename_i hs hx
      have hxe := intsOf_eq hx
      subst hxe
      split
      · rename_i hk
        obtain ⟨hk1, hk2⟩ := hk
        have hok : okH hs := fun n hn => by simpa using List.all_eq_true.mp hk2 n hn
        obtain ⟨p3, p4, p5, p6, p7, e⟩ := wd_all (S := S) hok hk1 (hs.length + 1) 0 none none none none none (by omega)
        rw [← rgD_nat] at e
        have hz : runB (hh hs) 0 = ([], (0, 0, 0)) := rfl
        rw [hz] at e
        simp only [List.reverse_nil, ixs_nil] at e
        generalize runB (hh hs) (hs.length + 1) = R at e
        have e3 : fiRng1 (fCons (fOp (gAdd false) (fCB gLen (fCons (fVar 0) (fNil))) (fC (.int 1))) (fNil)) [some (.lst (hs.map D.int)), some (tD (0, 0, 0)), some (.ref S.length), none, none, none, none, none] (S ++ [.lst []]) = .ok (.items (rgD 0 (hs.length + 1))) (S ++ [.lst []]) := by
          exact rng1_at (j := (hs.length : Int) + 1) (by simp) (by omega) (by omega)
        have s1 : (fPar 1 2 (fCons (fTup (fCons (fC (.int 0)) (fCons (fC (.int 0)) (fCons (fC (.int 0)) (fNil))))) (fCons (fLst true (fNil)) (fNil)))) (startD ["heights", "best", "waiting", "k", "height", "high", "first", "here"] [.lst (hs.map D.int)]) S = .nx [some (.lst (hs.map D.int)), some (tD (0, 0, 0)), some (.ref S.length), none, none, none, none, none] (S ++ [.lst []]) := by
          simp [sizeLine_val, tD]
        unfold f_widest
        rw [fSeq_eq, s1, seq_nx, fSeq_eq, fFor_eq, e3, then_ok]
        simp only [e, seq_nx]
        rw [fRet_eq, fVar_eq]
        simp only [List.getElem?_cons_succ, List.getElem?_cons_zero, valO_some, then_ok]
        refine ret_junk hc ?_
        simp [tD, clD, clDs]
      · exact ret_no
    · exact ret_no
  · exact ret_no
end widest
end Law

namespace Law
open PySem L2 PF
/-! ### the law -/
section law
variable {K : PySem.W.Frag} {C : Addr} {S T : So} {row hs : List Int} {o0 o1 o2 o3 o4 o5 o6 o7 o8 o9 o10 o11 o12 o13 o14 : Option D}
/-- later ones -/
theorem lc_later {en : En} {k : Nat} (h2 : ∀ d, (en.set 14 (some d))[2]? = some (some (.lst (row.map D.int)))) (h6 : ∀ d, (en.set 14 (some d))[6]? = some (some (.int (k : Int)))) (h14 : ∀ d : D, (en.set 14 (some d))[14]? = some (some d)) (hk : k < row.length) : ∀ (m a : Nat) (acc : List D), a + m = row.length → acc.length + m < 16777216 →
    lcL (gtName 14) (fTst (fOp gGtA (fOp gIx (fVar 2) (fVar 14)) (fOp gIx (fVar 2) (fVar 6)))) (fVar 14) en (rgD (a : Int) m) acc T
      = .ok (acc ++ ((List.range' a m).filter fun j => decide (vv row k < vv row j)).map fun (j : Nat) => D.int (j : Int)) T
  | 0, a, acc, _, _ => by simp [rgD, lcL]
  | m + 1, a, acc, h, hl => by
    rw [rgD_cons, List.range'_succ]
    have ha : a < row.length := by omega
    have a1 : atI (row.map D.int) (a : Int) = some (.int (vv row a)) := at_get (vv_get ha)
    have a2 : atI (row.map D.int) (k : Int) = some (.int (vv row k)) := at_get (vv_get hk)
    have hacc : acc.length < sizeLine := small_lt (by omega)
    have e1 : ((a : Int) + 1) = ((a + 1 : Nat) : Int) := by omega
    rw [e1]
    by_cases c : vv row k < vv row a
    · have ih := lc_later h2 h6 h14 hk m (a + 1) (acc ++ [.int (a : Int)]) (by omega) (by simp; omega)
      simp only [lcL, gtName_eq, fTst_eq, fOp_eq, fVar_eq, h2, h6, h14, valO_some, bind_ok, gIx_lst, a1, a2, Option.map, ofO_some, gGtA_int, isB_bl, c, decide_true, if_true, hacc, ih]
      simp [c]
    · have ih := lc_later h2 h6 h14 hk m (a + 1) acc (by omega) (by omega)
      simp only [lcL, gtName_eq, fTst_eq, fOp_eq, fVar_eq, h2, h6, h14, valO_some, bind_ok, gIx_lst, a1, a2, Option.map, ofO_some, gGtA_int, isB_bl, c, decide_false, if_false, Bool.false_eq_true, ih]
      simp [c]
theorem due_turn {n k : Nat} {acc : List D} (hn : T[n]? = some (.lst acc)) (hacc : acc.length < 1000) (hk : k < row.length) (hl : row.length ≤ 1000) :
    ∃ p7, f_law_b2 K C F__law_rounds F__law_roll F__law_row (F_windows C) F_next_greater F_widest [o0, o1, some (.lst (row.map D.int)), o3, o4, some (.ref n), some (.int (k : Int)), o7, o8, o9, o10, o11, o12, o13, o14] T
      = .nx [o0, o1, some (.lst (row.map D.int)), o3, o4, some (.ref n), some (.int (k : Int)), p7, o8, o9, o10, o11, o12, o13, o14] (T.set n (.lst (acc ++ [ofN (Nxt.nxt (vv row) row.length k)]))) := by
  have hr := rng2_at (fa := fCons (fOp (gAdd false) (fVar 6) (fC (.int 1))) (fCons (fCB gLen (fCons (fVar 2) (fNil))) (fNil))) (en := [o0, o1, some (.lst (row.map D.int)), o3, o4, some (.ref n), some (.int (k : Int)), o7, o8, o9, o10, o11, o12, o13, o14]) (S := T) (S1 := T) (i := (k : Int) + 1) (j := (row.length : Int)) (n := row.length - (k + 1)) (by simp) (by omega) (by omega) (by omega)
  have e1 : ((k : Int) + 1) = ((k + 1 : Nat) : Int) := by omega
  rw [e1] at hr
  have lc := lc_later (T := T) (row := row) (k := k) (en := [o0, o1, some (.lst (row.map D.int)), o3, o4, some (.ref n), some (.int (k : Int)), o7, o8, o9, o10, o11, o12, o13, none]) (fun d => rfl) (fun d => rfl) (fun d => rfl) hk (row.length - (k + 1)) (k + 1) [] (by omega) (by simp; omega)
  have hx : Nxt.nxt (vv row) row.length k = ((List.range' (k + 1) (row.length - (k + 1))).filter fun j => decide (vv row k < vv row j)).head? := by
    rw [List.head?_filter]; rfl
  have hlen : ((List.range' (k + 1) (row.length - (k + 1))).filter fun j => decide (vv row k < vv row j)).length ≤ 1000 := by
    have := List.length_filter_le (fun j => decide (vv row k < vv row j)) (List.range' (k + 1) (row.length - (k + 1)))
    simp at this ⊢
    omega
  rw [hx]
  generalize ((List.range' (k + 1) (row.length - (k + 1))).filter fun j => decide (vv row k < vv row j)) = L at lc hlen
  have s1 : (fAsg (fLc 100000 false [14] (fiRng2 (fCons (fOp (gAdd false) (fVar 6) (fC (.int 1))) (fCons (fCB gLen (fCons (fVar 2) (fNil))) (fNil)))) (gtName 14) (fTst (fOp gGtA (fOp gIx (fVar 2) (fVar 14)) (fOp gIx (fVar 2) (fVar 6)))) (fVar 14)) (gtName 7)) [o0, o1, some (.lst (row.map D.int)), o3, o4, some (.ref n), some (.int (k : Int)), o7, o8, o9, o10, o11, o12, o13, o14] T
      = .nx [o0, o1, some (.lst (row.map D.int)), o3, o4, some (.ref n), some (.int (k : Int)), some (.lst (L.map fun (j : Nat) => D.int (j : Int))), o8, o9, o10, o11, o12, o13, o14] T := by
    rw [fAsg_eq, fLc_eq, hr, bind_ok, lcT_items]
    simp only [wipe_cons, wipe_nil, List.set_cons_succ, List.set_cons_zero, lc, noX_ok, bind_ok, newL_f, ofO_some, then_ok, gtName_eq, flG_some, List.nil_append]
  have hadd := add_lst false (L.map fun (j : Nat) => D.int (j : Int)) [.non] T (by simp; omega)
  have hix : atI ((L.map fun (j : Nat) => D.int (j : Int)) ++ [.non]) 0 = some (ofN L.head?) := by
    cases L with
    | nil => exact atI0 _ _
    | cons a L => exact atI0 _ _
  have h1 : (1 : Nat) ≤ sizeLine := small_le (by decide)
  have h3 : acc.length < sizeLine := small_lt (by omega)
  refine ⟨some (.lst (L.map fun (j : Nat) => D.int (j : Int))), ?_⟩
  unfold f_law_b2
  rw [fSeq_eq, s1, seq_nx]
  simp [h1, hadd, hix, hn, h3]
theorem fnd_succ (n : Nat) (f : Nat → Option Nat) : fnd (n + 1) f = fnd n f ++ [ofN (f n)] := by
  simp [fnd, List.range_succ]
theorem due_all {n : Nat} (hl : row.length ≤ 1000) : ∀ (m k : Nat) (T : So) (o6 o7 : Option D), k + m = row.length → T[n]? = some (.lst (fnd k (Nxt.nxt (vv row) row.length))) →
    ∃ p6 p7, forL (gtName 6) (f_law_b2 K C F__law_rounds F__law_roll F__law_row (F_windows C) F_next_greater F_widest) (rgD (k : Int) m) [o0, o1, some (.lst (row.map D.int)), o3, o4, some (.ref n), o6, o7, o8, o9, o10, o11, o12, o13, o14] T
      = .nx [o0, o1, some (.lst (row.map D.int)), o3, o4, some (.ref n), p6, p7, o8, o9, o10, o11, o12, o13, o14] (T.set n (.lst (nexts row)))
  | 0, k, T, o6, o7, h, hn => by
    have : k = row.length := by omega
    subst this
    exact ⟨o6, o7, by rw [set_same (by rw [hn]; rfl)]; rfl⟩
  | m + 1, k, T, o6, o7, h, hn => by
    obtain ⟨p7, e⟩ := due_turn (K := K) (C := C) (o0 := o0) (o1 := o1) (o3 := o3) (o4 := o4) (o7 := o7) (o8 := o8) (o9 := o9) (o10 := o10) (o11 := o11) (o12 := o12) (o13 := o13) (o14 := o14) hn (by rw [fnd_len]; omega) (by omega : k < row.length) hl
    rw [← fnd_succ] at e
    obtain ⟨q6, q7, e2⟩ := due_all hl m (k + 1) (T.set n (.lst (fnd (k + 1) (Nxt.nxt (vv row) row.length)))) (some (.int (k : Int))) p7 (by omega) (get_set hn)
    refine ⟨q6, q7, ?_⟩
    rw [List.set_set] at e2
    rw [← e2, rgD_cons, show ((k : Int) + 1) = ((k + 1 : Nat) : Int) by omega]
    exact for_cons (by simp) e
/-- min or max of the windows -/
theorem lc_best {en : En} {g : Bool} {w : Nat} (h2 : ∀ d, (en.set 6 (some d))[2]? = some (some (.lst (row.map D.int)))) (h3 : ∀ d, (en.set 6 (some d))[3]? = some (some (.int (w : Int)))) (h6 : ∀ d : D, (en.set 6 (some d))[6]? = some (some d)) (hw : 1 ≤ w) :
    ∀ (m a : Nat) (acc : List D), (0 < m → a + m + w ≤ row.length + 1) → acc.length + m < 16777216 →
    lcL (gtName 6) fYes (fCB (if g then gMax else gMin) (fCons (fSl false (fVar 2) (fPart (fVar 6)) (fPart (fOp (gAdd false) (fVar 6) (fVar 3)))) (fNil))) en (rgD (a : Int) m) acc T
      = .ok (acc ++ ((List.range' a m).map fun (i : Nat) => bestI g ((row.drop i).take w)).map D.int) T
  | 0, a, acc, _, _ => by simp [rgD, lcL]
  | m + 1, a, acc, h, hl => by
    rw [rgD_cons, List.range'_succ, show ((a : Int) + 1) = ((a + 1 : Nat) : Int) by omega]
    have h := h (by omega)
    have hacc : acc.length < sizeLine := small_lt (by omega)
    have hs := sl_nat false row a (a + w) (by omega) T
    rw [show a + w - a = w by omega, show ((a + w : Nat) : Int) = (a : Int) + (w : Int) by omega] at hs
    have hne : (row.drop a).take w ≠ [] := by
      intro q
      have := congrArg List.length q
      simp at this
      omega
    have ih := lc_best (g := g) h2 h3 h6 hw m (a + 1) (acc ++ [.int (bestI g ((row.drop a).take w))]) (fun _ => by omega) (by simp; omega)
    have hb : (if g then gMax else gMin) [.lst (((row.drop a).take w).map D.int)] T = some (.int (bestI g ((row.drop a).take w)), T) := by
      cases g with
      | true => simp only [if_true, gMax_ints, bestI]; rw [if_neg hne]
      | false => simp only [Bool.false_eq_true, if_false, gMin_ints, bestI]; rw [if_neg hne]
    generalize (if g then gMax else gMin : GA) = G at hb ih ⊢
    simp only [lcL, gtName_eq, fYes_eq, bind_ok, if_true, fCB_eq, fCons_eq, fSl_eq, fVar_eq, h2, h3, h6, valO_some, fPart_eq, asI_int, fOp_eq, gAdd_int, ofO_some, hs, newL_f, fNil_eq, hb, hacc, ih]
    simp
end law
end Law

namespace Law
open PySem L2 PF
section law
variable {K : PySem.W.Frag} {C : Addr} {S T : So} {row hs : List Int} {o0 o1 o2 o3 o4 o5 o6 o7 o8 o9 o10 o11 o12 o13 o14 : Option D}
/-- the heights -/
theorem lc_hts {en : En} {n : Nat} (h1 : ∀ d, (en.set 6 (some d))[1]? = some (some (.ref n))) : ∀ (ds : List D) (acc : List D) (T : So) (c : Dc), T[n]? = some (dO c) → acc.length + ds.length < 16777216 →
    lcL (gtName 6) fYes (fCall (FN.len F__law_roll 2) (fCons (fVar 1) (fCons (fC (.int 6)) (fNil)))) en ds acc T
      = .ok (acc ++ (rolls c 6 ds.length).1.map D.int) (T.set n (dO (rolls c 6 ds.length).2))
  | [], acc, T, c, hT, _ => by simp [lcL, rolls, set_same hT]
  | d :: ds, acc, T, c, hT, h => by
    simp only [List.length_cons] at h
    have ha : acc.length < sizeLine := small_lt (by omega)
    have ih := lc_hts h1 ds (acc ++ [.int (roll c 6).1]) (T.set n (dO (roll c 6).2)) (roll c 6).2 (get_set hT) (by simp; omega)
    have hr := roll_at (m := 6) hT (by omega) (by omega)
    simp only [lcL, gtName_eq, fYes_eq, bind_ok, if_true, fCall_eq, fCons_eq, fVar_eq, h1, valO_some, fC_eq, fNil_eq, fLen_eq, List.length_cons, List.length_nil, hr, ha, ih]
    simp [rolls]
/-- a block's area -/
def area (hs : List Int) (lo hi : Nat) : Int := leastI ((hs.drop lo).take (hi - lo)) * ((hi : Int) - (lo : Int))
theorem low_least {lo hi : Nat} (h1 : lo < hi) (h2 : hi ≤ hs.length) : Wd.low (hh hs) lo hi (leastI ((hs.drop lo).take (hi - lo))) := by
  have hne : (hs.drop lo).take (hi - lo) ≠ [] := by
    intro q
    have := congrArg List.length q
    simp at this
    omega
  have a := leastI_spec hne
  refine ⟨h1, ?_, fun i h3 h4 => ?_⟩
  · obtain ⟨j, j1, j2, j3, j4⟩ := mem_win.mp a.1
    exact ⟨j, j1, by omega, by rw [hh, if_pos j3, ← j4]⟩
  · rw [hh, if_pos (by omega)]
    exact a.2 _ (mem_win.mpr ⟨i, h3, by omega, by omega, rfl⟩)
theorem low_uniq {h : Nat → Int} {lo hi : Nat} {m m' : Int} (a : Wd.low h lo hi m) (b : Wd.low h lo hi m') : m = m' := by
  obtain ⟨_, ⟨i, i1, i2, i3⟩, a3⟩ := a
  obtain ⟨_, ⟨j, j1, j2, j3⟩, b3⟩ := b
  have := a3 j j1 j2
  have := b3 i i1 i2
  omega
theorem least_ok {lo hi : Nat} (hok : okH hs) (h1 : lo < hi) (h2 : hi ≤ hs.length) : 0 ≤ leastI ((hs.drop lo).take (hi - lo)) ∧ leastI ((hs.drop lo).take (hi - lo)) ≤ 1000000000 := by
  obtain ⟨_, ⟨i, i1, i2, i3⟩, _⟩ := low_least (hs := hs) h1 h2
  rw [← i3, hh, if_pos (by omega)]
  exact hok _ (vv_mem (by omega))
theorem min_at {lo hi : Nat} (h1 : lo < hi) (h2 : hi ≤ hs.length) (T : So) : gMin [.lst (((hs.drop lo).take (hi - lo)).map D.int)] T = some (.int (leastI ((hs.drop lo).take (hi - lo))), T) := by
  rw [gMin_ints, if_neg]
  intro q
  have := congrArg List.length q
  simp at this
  omega
theorem br_turn {lo hi : Nat} {c : Wd.B} (hok : okH hs) (h1 : lo < hi) (h2 : hi ≤ hs.length) :
    f_law_b4 K C F__law_rounds F__law_roll F__law_row (F_windows C) F_next_greater F_widest [o0, o1, o2, o3, o4, o5, o6, o7, some (.lst (hs.map D.int)), some (tD c), some (.int (lo : Int)), some (.int (hi : Int)), o12, o13, o14] T
      = .nx [o0, o1, o2, o3, o4, o5, o6, o7, some (.lst (hs.map D.int)), some (tD (if c.1 < area hs lo hi then (area hs lo hi, lo, hi) else c)), some (.int (lo : Int)), some (.int (hi : Int)), some (.int (area hs lo hi)), o13, o14] T := by
  have hs1 := sl_nat false hs lo hi (by omega) T
  have hm := min_at h1 h2 T
  have hl := least_ok hok h1 h2
  have cm : cMul (leastI ((hs.drop lo).take (hi - lo))) ((hi : Int) - (lo : Int)) = true := cmul_small hl
  unfold area
  generalize leastI ((hs.drop lo).take (hi - lo)) = L at hm cm
  generalize (hs.drop lo).take (hi - lo) = Q at hs1 hm
  have hz : (3 : Nat) ≤ sizeLine := small_le (by decide)
  unfold f_law_b4
  by_cases cc : c.1 < L * ((hi : Int) - (lo : Int))
  · rw [if_pos cc]
    simp [hs1, hm, cm, tD, atI0, cc, hz]
  · rw [if_neg cc]
    simp [hs1, hm, cm, tD, atI0, cc, hz]
theorem br_in {lo : Nat} (hok : okH hs) : ∀ (m a : Nat) (c : Wd.B) (o11 o12 : Option D), a + m = hs.length + 1 → lo < a → Wd.good (hh hs) hs.length c →
    ∃ c' p11 p12, Wd.good (hh hs) hs.length c' ∧ c.1 ≤ c'.1 ∧ (∀ hi, a ≤ hi → hi ≤ hs.length → area hs lo hi ≤ c'.1) ∧
      forL (gtName 11) (f_law_b4 K C F__law_rounds F__law_roll F__law_row (F_windows C) F_next_greater F_widest) (rgD (a : Int) m) [o0, o1, o2, o3, o4, o5, o6, o7, some (.lst (hs.map D.int)), some (tD c), some (.int (lo : Int)), o11, o12, o13, o14] T
      = .nx [o0, o1, o2, o3, o4, o5, o6, o7, some (.lst (hs.map D.int)), some (tD c'), some (.int (lo : Int)), p11, p12, o13, o14] T
  | 0, a, c, o11, o12, h, ha, G => ⟨c, o11, o12, G, Int.le_refl _, fun hi h1 h2 => by omega, rfl⟩
  | m + 1, a, c, o11, o12, h, ha, G => by
    have e := br_turn (K := K) (C := C) (T := T) (o0 := o0) (o1 := o1) (o2 := o2) (o3 := o3) (o4 := o4) (o5 := o5) (o6 := o6) (o7 := o7) (o12 := o12) (o13 := o13) (o14 := o14) (c := c) hok ha (by omega : a ≤ hs.length)
    have G' : Wd.good (hh hs) hs.length (if c.1 < area hs lo a then (area hs lo a, lo, a) else c) := by
      split
      · rename_i cc
        have : 0 ≤ c.1 := by
          rcases G with rfl | ⟨_, g, _⟩
          · exact Int.le_refl _
          · omega
        have x1 : a ≤ hs.length := by omega
        have x2 : 0 < area hs lo a := by omega
        exact .inr ⟨x1, x2, _, low_least ha x1, rfl⟩
      · exact G
    obtain ⟨c', p11, p12, g, l, al, e2⟩ := br_in (lo := lo) hok m (a + 1) (if c.1 < area hs lo a then (area hs lo a, lo, a) else c) (some (.int (a : Int))) (some (.int (area hs lo a))) (by omega) (by omega) G'
    have hmax : c.1 ≤ (if c.1 < area hs lo a then (area hs lo a, lo, a) else c).1 ∧ area hs lo a ≤ (if c.1 < area hs lo a then (area hs lo a, lo, a) else c).1 := by
      split
      · simp only; omega
      · omega
    refine ⟨c', p11, p12, g, by omega, fun hi h1 h2 => ?_, ?_⟩
    · by_cases z : hi = a
      · subst z; omega
      · exact al hi (by omega) h2
    · rw [← e2, rgD_cons, show ((a : Int) + 1) = ((a + 1 : Nat) : Int) by omega]
      exact for_cons (by simp) e
theorem br_out (hok : okH hs) (hl : hs.length ≤ 1000) : ∀ (m a : Nat) (c : Wd.B) (o10 o11 o12 : Option D), a + m = hs.length → Wd.good (hh hs) hs.length c →
    ∃ c' p10 p11 p12, Wd.good (hh hs) hs.length c' ∧ c.1 ≤ c'.1 ∧ (∀ lo hi, a ≤ lo → lo < hi → hi ≤ hs.length → area hs lo hi ≤ c'.1) ∧
      forL (gtName 10) (f_law_b3 K C F__law_rounds F__law_roll F__law_row (F_windows C) F_next_greater F_widest) (rgD (a : Int) m) [o0, o1, o2, o3, o4, o5, o6, o7, some (.lst (hs.map D.int)), some (tD c), o10, o11, o12, o13, o14] T
      = .nx [o0, o1, o2, o3, o4, o5, o6, o7, some (.lst (hs.map D.int)), some (tD c'), p10, p11, p12, o13, o14] T
  | 0, a, c, o10, o11, o12, h, G => ⟨c, o10, o11, o12, G, Int.le_refl _, fun lo hi h1 h2 h3 => by omega, rfl⟩
  | m + 1, a, c, o10, o11, o12, h, G => by
    obtain ⟨c1, q11, q12, g1, l1, al1, e1⟩ := br_in (K := K) (C := C) (T := T) (o0 := o0) (o1 := o1) (o2 := o2) (o3 := o3) (o4 := o4) (o5 := o5) (o6 := o6) (o7 := o7) (o13 := o13) (o14 := o14) (lo := a) hok (hs.length + 1 - (a + 1)) (a + 1) c o11 o12 (by omega) (by omega) G
    obtain ⟨c2, p10, p11, p12, g2, l2, al2, e2⟩ := br_out hok hl m (a + 1) c1 (some (.int (a : Int))) q11 q12 (by omega) g1
    refine ⟨c2, p10, p11, p12, g2, by omega, fun lo hi h1 h2 h3 => ?_, ?_⟩
    · by_cases z : lo = a
      · subst z; have := al1 hi (by omega) h3; omega
      · exact al2 lo hi (by omega) h2 h3
    · rw [← e2, rgD_cons, show ((a : Int) + 1) = ((a + 1 : Nat) : Int) by omega]
      refine for_cons (S1 := T) (e1 := [o0, o1, o2, o3, o4, o5, o6, o7, some (.lst (hs.map D.int)), some (tD c), some (.int (a : Int)), o11, o12, o13, o14]) (by simp) ?_
      have hr := rng2_at (fa := fCons (fOp (gAdd false) (fVar 10) (fC (.int 1))) (fCons (fOp (gAdd false) (fCB gLen (fCons (fVar 8) (fNil))) (fC (.int 1))) (fNil))) (en := [o0, o1, o2, o3, o4, o5, o6, o7, some (.lst (hs.map D.int)), some (tD c), some (.int (a : Int)), o11, o12, o13, o14]) (S := T) (S1 := T) (i := (a : Int) + 1) (j := (hs.length : Int) + 1) (n := hs.length + 1 - (a + 1)) (by simp) (by omega) (by omega) (by omega)
      unfold f_law_b3
      rw [fFor_eq, hr, then_ok, show ((a : Int) + 1) = ((a + 1 : Nat) : Int) by omega]
      exact e1
/-- the two tests of the told block -/
theorem told_ok (hok : okH hs) {b c : Wd.B} (gb : Wd.good (hh hs) hs.length b) (h1 : b.1 = c.1) (h2 : Wd.ge b c) :
    (fOrT (fTst (fOp gNe (fOp gIx (fVar 13) (fC (.int 0))) (fOp gIx (fVar 9) (fC (.int 0))))) (fAndT (fTst (fOp gGtA (fOp gIx (fVar 9) (fC (.int 0))) (fC (.int 0)))) (fTst (fOp gNe (fOp (gMul false) (fCB gMin (fCons (fSl false (fVar 8) (fPart (fOp gIx (fVar 13) (fC (.int 1)))) (fPart (fOp gIx (fVar 13) (fC (.int 2))))) (fNil))) (fOp gMinus (fOp gIx (fVar 13) (fC (.int 2))) (fOp gIx (fVar 13) (fC (.int 1))))) (fOp gIx (fVar 9) (fC (.int 0))))))) [o0, o1, o2, o3, o4, o5, o6, o7, some (.lst (hs.map D.int)), some (tD c), o10, o11, o12, some (tD b), o14] T = .ok false T := by
  by_cases z : 0 < c.1
  · rcases gb with rfl | ⟨g1, g2, m, g3, g4⟩
    · exfalso; simp at h1; omega
    · have hlt := g3.1
      have hm : m = leastI ((hs.drop b.2.1).take (b.2.2 - b.2.1)) := low_uniq g3 (low_least hlt g1)
      have hs1 := sl_nat false hs b.2.1 b.2.2 (by omega) T
      have hm2 := min_at hlt g1 T
      have hl := least_ok hok hlt g1
      rw [← hm] at hm2 hl
      generalize (hs.drop b.2.1).take (b.2.2 - b.2.1) = Q at hs1 hm2
      have cm : cMul m ((b.2.2 : Int) - (b.2.1 : Int)) = true := cmul_small hl
      have ha : m * ((b.2.2 : Int) - (b.2.1 : Int)) = c.1 := by omega
      simp [tD, atI0, atI1, atI2, h1, hs1, hm2, cm, ha]
  · simp [tD, atI0, h1, z]
theorem told_le {b c : Wd.B} (h1 : b.1 = c.1) (h2 : Wd.ge b c) :
    (fAndT (fTst (fOp gGtA (fOp gIx (fVar 9) (fC (.int 0))) (fC (.int 0)))) (fAndT (fTst (fOp gNe (fVar 13) (fVar 9))) (fTst (fOp gGtA (fSl false (fVar 13) (fPart (fC (.int 1))) (fNoPart)) (fSl false (fVar 9) (fPart (fC (.int 1))) (fNoPart)))))) [o0, o1, o2, o3, o4, o5, o6, o7, some (.lst (hs.map D.int)), some (tD c), o10, o11, o12, some (tD b), o14] T = .ok false T := by
  have hg : ∀ x : Wd.B, gud 1 (tD x) := fun x => gud_tup (guds_cons (gud_int _ _) (guds_cons (gud_int _ _) (guds_cons (gud_int _ _) (guds_nil _))))
  have hne := gNe_gud (S := T) (hg b) (hg c) (by decide)
  have hlx : ¬ (c.2.1 < b.2.1 ∨ (c.2.1 = b.2.1 ∧ c.2.2 < b.2.2)) := by unfold Wd.ge at h2; omega
  have ht := gt2n b.2.1 b.2.2 c.2.1 c.2.2 T
  rw [decide_eq_false hlx] at ht
  have hc0 : gIx (tD c) (.int 0) T = some (.int c.1, T) := by simp [tD, atI0]
  have sb : ∀ x : Wd.B, gSl false (tD x) (some 1) none T = some (.tup [.int (x.2.1 : Int), .int (x.2.2 : Int)], T) := fun x => rfl
  by_cases z : 0 < c.1
  · cases hq : eqq (tD b) (tD c) with
    | true => rw [hq] at hne; simp [hc0, hne]
    | false => rw [hq] at hne; simp [hc0, hne, sb, ht]
  · simp [hc0, z]
end law
end Law

namespace Law
open PySem L2 PF
section law
variable {K : PySem.W.Frag} {C : Addr} {S T : So} {row hs : List Int} {o0 o1 o2 o3 o4 o5 o6 o7 o8 o9 o10 o11 o12 o13 o14 : Option D}
theorem windows_at {g : Bool} {w : Nat} (hw : 1 ≤ w) (hl : row.length ≤ 1000) (hok : okKeys row) (T : So) : F_windows C [.lst (row.map D.int), .int (w : Int), .bl g] T = .ok (.tup ((wins g row w row.length).map D.int)) T := by
  have ha : row.all (fun n => decide (-1000000000 ≤ n ∧ n ≤ 1000000000)) = true := List.all_eq_true.mpr fun n hn => by simpa using hok n hn
  simp only [F_windows, intsOf_map]
  rw [if_neg (by omega), if_pos ⟨hl, ha⟩, Int.toNat_natCast]
theorem windows_0 {g : Bool} (T : So) : F_windows C [.lst (row.map D.int), .int 0, .bl g] T = .ex C T := by
  simp only [F_windows, intsOf_map]
  rw [if_pos (by omega)]
theorem next_at (hl : row.length ≤ 1000) (T : So) : F_next_greater [.lst (row.map D.int)] T = .ok (.tup (nexts row)) T := by
  simp only [F_next_greater, intsOf_map]
  rw [if_pos hl]
theorem widest_at (hl : hs.length ≤ 1000) (hok : okH hs) (T : So) : F_widest [.lst (hs.map D.int)] T = .ok (tD (runB (hh hs) (hs.length + 1)).2) T := by
  have ha : hs.all (fun n => decide (0 ≤ n ∧ n ≤ 1000000000)) = true := List.all_eq_true.mpr fun n hn => by simpa using hok n hn
  simp only [F_widest, intsOf_map]
  rw [if_pos ⟨hl, ha⟩]
theorem guds_fnd (n : Nat) (f : Nat → Option Nat) : guds 0 (fnd n f) := guds_all fun d h => by
  obtain ⟨i, _, rfl⟩ := List.mem_map.mp h
  cases f i with
  | none => exact gud_non 0
  | some j => exact gud_int 0 _
/-- a test of the windows -/
theorem win_test {g : Bool} {w : Nat} (hw : 1 ≤ w) (hl : row.length ≤ 1000) (hok : okKeys row) {G : GA} (hG : G = if g then gMax else gMin) :
    (fIte (fTst (fOp gNe (fCB (gList false) (fCons (fCall (FN.len (F_windows C) 3) (fCons (fVar 2) (fCons (fVar 3) (fCons (fC (.bl g)) (fNil))))) (fNil))) (fLc 100000 false [6] (fiSeq (fVar 4)) (gtName 6) (fYes) (fCB G (fCons (fSl false (fVar 2) (fPart (fVar 6)) (fPart (fOp (gAdd false) (fVar 6) (fVar 3)))) (fNil)))))) (fRet (fC (.bl false))) (fNext)) [o0, o1, some (.lst (row.map D.int)), some (.int (w : Int)), some (.lst (rgD 0 (row.length + 1 - w))), o5, o6, o7, o8, o9, o10, o11, o12, o13, o14] T
      = .nx [o0, o1, some (.lst (row.map D.int)), some (.int (w : Int)), some (.lst (rgD 0 (row.length + 1 - w))), o5, o6, o7, o8, o9, o10, o11, o12, o13, o14] T := by
  have hwin := windows_at (C := C) (g := g) hw hl hok T
  have lc := lc_best (T := T) (row := row) (g := g) (w := w) (en := [o0, o1, some (.lst (row.map D.int)), some (.int (w : Int)), some (.lst (rgD 0 (row.length + 1 - w))), o5, none, o7, o8, o9, o10, o11, o12, o13, o14]) (fun d => rfl) (fun d => rfl) (fun d => rfl) hw (row.length + 1 - w) 0 [] (fun _ => by omega) (by simp; omega)
  rw [← hG] at lc
  have hL : ((List.range' 0 (row.length + 1 - w)).map fun (i : Nat) => bestI g ((row.drop i).take w)) = wins g row w row.length := by
    unfold wins; rw [List.range_eq_range']
  rw [hL] at lc
  have hne := ne_ints (wins g row w row.length) (wins g row w row.length) T
  simp only [decide_true, Bool.not_true] at hne
  generalize (wins g row w row.length).map D.int = W at hwin lc hne
  have hit : fiSeq (fVar 4) [o0, o1, some (.lst (row.map D.int)), some (.int (w : Int)), some (.lst (rgD 0 (row.length + 1 - w))), o5, o6, o7, o8, o9, o10, o11, o12, o13, o14] T = .ok (.items (rgD 0 (row.length + 1 - w))) T := by simp
  have hlc : (fLc 100000 false [6] (fiSeq (fVar 4)) (gtName 6) (fYes) (fCB G (fCons (fSl false (fVar 2) (fPart (fVar 6)) (fPart (fOp (gAdd false) (fVar 6) (fVar 3)))) (fNil)))) [o0, o1, some (.lst (row.map D.int)), some (.int (w : Int)), some (.lst (rgD 0 (row.length + 1 - w))), o5, o6, o7, o8, o9, o10, o11, o12, o13, o14] T = .ok (.lst W) T := by
    rw [fLc_eq, hit, bind_ok, lcT_items]
    have : wipeD [o0, o1, some (.lst (row.map D.int)), some (.int (w : Int)), some (.lst (rgD 0 (row.length + 1 - w))), o5, o6, o7, o8, o9, o10, o11, o12, o13, o14] [6] = [o0, o1, some (.lst (row.map D.int)), some (.int (w : Int)), some (.lst (rgD 0 (row.length + 1 - w))), o5, none, o7, o8, o9, o10, o11, o12, o13, o14] := rfl
    rw [this]
    have lc' := lc
    simp only [Int.natCast_zero] at lc'
    rw [lc', noX_ok, bind_ok, newL_f, ofO_some, List.nil_append]
  generalize (fLc 100000 false [6] (fiSeq (fVar 4)) (gtName 6) (fYes) (fCB G (fCons (fSl false (fVar 2) (fPart (fVar 6)) (fPart (fOp (gAdd false) (fVar 6) (fVar 3)))) (fNil)))) = X at hlc
  generalize rgD 0 (row.length + 1 - w) = R at hlc
  simp [hwin, hlc, hne]
/-- one round -/
theorem law_turn {n : Nat} {c : Dc} (x : PySem.W.exmOne K (.ref C) (.ref C) = some true) (hT : T[n]? = some (dO c)) :
    ∃ c' due p1 p2 p3 p4 p5 p6 p7 p8 p9 p10 p11 p12 p13 p14, f_law_b1 K C F__law_rounds F__law_roll F__law_row (F_windows C) F_next_greater F_widest [o0, some (.ref n), o2, o3, o4, o5, o6, o7, o8, o9, o10, o11, o12, o13, o14] T
      = .nx [o0, p1, p2, p3, p4, p5, p6, p7, p8, p9, p10, p11, p12, p13, p14] (T.set n (dO c') ++ [.lst due]) := by
  -- row, wide
  have r1 := row_at (most := 12) (wide := 9) hT (by omega) (by omega)
  have rl := rowOf_len c (most := 12) (wide := 9) (by omega)
  have rm := rowOf_mem c (most := 12) (wide := 9) (by omega)
  generalize rowOf c 12 9 = rw1 at r1 rl rm
  obtain ⟨row, c1⟩ := rw1
  simp only at r1 rl rm
  have r2 := roll_at (m := 5) (get_set (p := dO c1) hT) (by omega) (by omega)
  have r2l := roll_lo c1 (m := 5) (by omega)
  have r2h := roll_hi c1 (m := 5) (by omega)
  generalize roll c1 5 = ro at r2 r2l r2h
  obtain ⟨w0, c2⟩ := ro
  simp only at r2 r2l r2h
  rw [List.set_set] at r2
  obtain ⟨w, hw⟩ : ∃ w : Nat, 1 + w0 = (w : Int) := ⟨(1 + w0).toNat, by omega⟩
  have hw1 : 1 ≤ w := by omega
  have hl : row.length ≤ 1000 := by omega
  have hok : okKeys row := fun n hn => by have := rm n hn; omega
  have z2 : (2 : Nat) ≤ sizeLine := small_le (by decide)
  have s1 : (fAsg (fTup (fCons (fCall (FN.len F__law_row 3) (fCons (fVar 1) (fCons (fC (.int 12)) (fCons (fC (.int 9)) (fNil))))) (fCons (fOp (gAdd false) (fC (.int 1)) (fCall (FN.len F__law_roll 2) (fCons (fVar 1) (fCons (fC (.int 5)) (fNil))))) (fNil)))) (gtTup 2 (gtCons (gtName 2) (gtCons (gtName 3) (gtNil))))) [o0, some (.ref n), o2, o3, o4, o5, o6, o7, o8, o9, o10, o11, o12, o13, o14] T
      = .nx [o0, some (.ref n), some (.lst (row.map D.int)), some (.int (w : Int)), o4, o5, o6, o7, o8, o9, o10, o11, o12, o13, o14] (T.set n (dO c2)) := by
    simp [r1, r2, hw, z2]
  have hT2 : (T.set n (dO c2))[n]? = some (dO c2) := get_set hT
  have hset : ∀ o, (T.set n (dO c2)).set n o = T.set n o := fun o => List.set_set ..
  generalize T.set n (dO c2) = T2 at s1 hT2 hset
  -- places
  have s2 : (fAsg (fLstRg1 false (fCB gMax (fCons (fC (.int 0)) (fCons (fOp (gAdd false) (fOp gMinus (fCB gLen (fCons (fVar 2) (fNil))) (fVar 3)) (fC (.int 1))) (fNil))))) (gtName 4)) [o0, some (.ref n), some (.lst (row.map D.int)), some (.int (w : Int)), o4, o5, o6, o7, o8, o9, o10, o11, o12, o13, o14] T2
      = .nx [o0, some (.ref n), some (.lst (row.map D.int)), some (.int (w : Int)), some (.lst (rgD 0 (row.length + 1 - w))), o5, o6, o7, o8, o9, o10, o11, o12, o13, o14] T2 := by
    rw [fAsg_eq, lrg_at (S1 := T2) (n := row.length + 1 - w) (j := if (row.length : Int) - w + 1 > 0 then (row.length : Int) - w + 1 else 0) (by simp) (by split <;> omega) (by omega)]
    simp
  -- windows
  have s3 := win_test (C := C) (T := T2) (row := row) (w := w) (g := false) (G := gMin) (o0 := o0) (o1 := some (.ref n)) (o5 := o5) (o6 := o6) (o7 := o7) (o8 := o8) (o9 := o9) (o10 := o10) (o11 := o11) (o12 := o12) (o13 := o13) (o14 := o14) hw1 hl hok rfl
  have s4 := win_test (C := C) (T := T2) (row := row) (w := w) (g := true) (G := gMax) (o0 := o0) (o1 := some (.ref n)) (o5 := o5) (o6 := o6) (o7 := o7) (o8 := o8) (o9 := o9) (o10 := o10) (o11 := o11) (o12 := o12) (o13 := o13) (o14 := o14) hw1 hl hok rfl
  -- due
  have z0 : (0 : Nat) ≤ sizeLine := Nat.zero_le _
  have s5 : (fAsg (fLst true (fNil)) (gtName 5)) [o0, some (.ref n), some (.lst (row.map D.int)), some (.int (w : Int)), some (.lst (rgD 0 (row.length + 1 - w))), o5, o6, o7, o8, o9, o10, o11, o12, o13, o14] T2
      = .nx [o0, some (.ref n), some (.lst (row.map D.int)), some (.int (w : Int)), some (.lst (rgD 0 (row.length + 1 - w))), some (.ref T2.length), o6, o7, o8, o9, o10, o11, o12, o13, o14] (T2 ++ [.lst []]) := by
    simp
  generalize rgD 0 (row.length + 1 - w) = R at s2 s3 s4 s5
  obtain ⟨p6, p7, e6⟩ := due_all (K := K) (C := C) (n := T2.length) (o0 := o0) (o1 := some (.ref n)) (o3 := some (.int (w : Int))) (o4 := some (.lst R)) (o8 := o8) (o9 := o9) (o10 := o10) (o11 := o11) (o12 := o12) (o13 := o13) (o14 := o14) hl row.length 0 (T2 ++ [.lst []]) o6 o7 (by omega) (by simp [fnd])
  have s6 : (fFor 100000 (fiRng1 (fCons (fCB gLen (fCons (fVar 2) (fNil))) (fNil))) (gtName 6) (f_law_b2 K C F__law_rounds F__law_roll F__law_row (F_windows C) F_next_greater F_widest)) [o0, some (.ref n), some (.lst (row.map D.int)), some (.int (w : Int)), some (.lst R), some (.ref T2.length), o6, o7, o8, o9, o10, o11, o12, o13, o14] (T2 ++ [.lst []])
      = .nx [o0, some (.ref n), some (.lst (row.map D.int)), some (.int (w : Int)), some (.lst R), some (.ref T2.length), p6, p7, o8, o9, o10, o11, o12, o13, o14] (T2 ++ [O.lst (nexts row)]) := by
    rw [fFor_eq, rng1_at (S1 := T2 ++ [.lst []]) (j := (row.length : Int)) (n := row.length) (by simp) rfl (by omega), then_ok]
    have := e6
    simp only [set_at0, List.set_cons_zero, Int.natCast_zero] at this
    exact this
  -- next_greater
  have hg : gud 1 (.lst (nexts row)) := gud_lst (guds_fnd _ _)
  have hn2 : (T2 ++ [O.lst (nexts row)])[T2.length]? = some (.lst (nexts row)) := by simp
  have s7 : (fIte (fTst (fOp gNe (fCB (gList false) (fCons (fCall (FN.len F_next_greater 1) (fCons (fVar 2) (fNil))) (fNil))) (fVar 5))) (fRet (fC (.bl false))) (fNext)) [o0, some (.ref n), some (.lst (row.map D.int)), some (.int (w : Int)), some (.lst R), some (.ref T2.length), p6, p7, o8, o9, o10, o11, o12, o13, o14] (T2 ++ [O.lst (nexts row)])
      = .nx [o0, some (.ref n), some (.lst (row.map D.int)), some (.int (w : Int)), some (.lst R), some (.ref T2.length), p6, p7, o8, o9, o10, o11, o12, o13, o14] (T2 ++ [O.lst (nexts row)]) := by
    have q := next_at hl (T2 ++ [O.lst (nexts row)])
    have q2 := gNe_refr (b := .lst (nexts row)) hn2
    rw [gNe_self hg (by decide)] at q2
    simp [q, q2]
  -- heights
  have hn : n < T2.length := (List.getElem?_eq_some_iff.mp hT2).1
  have hT3 : (T2 ++ [O.lst (nexts row)])[n]? = some (dO c2) := by rw [List.getElem?_append_left hn]; exact hT2
  have r3 := roll_at (m := 9) hT3 (by omega) (by omega)
  have r3l := roll_lo c2 (m := 9) (by omega)
  have r3h := roll_hi c2 (m := 9) (by omega)
  generalize roll c2 9 = ro3 at r3 r3l r3h
  obtain ⟨h0, c3⟩ := ro3
  simp only at r3 r3l r3h
  obtain ⟨hc, hhc⟩ : ∃ w : Nat, h0 = (w : Int) := ⟨h0.toNat, by omega⟩
  have hlc := lc_hts (en := [o0, some (.ref n), some (.lst (row.map D.int)), some (.int (w : Int)), some (.lst R), some (.ref T2.length), none, p7, o8, o9, o10, o11, o12, o13, o14]) (n := n) (fun d => rfl) (rgD 0 hc) [] _ c3 (get_set (p := dO c3) hT3) (by rw [rgD_len]; simp; omega)
  rw [rgD_len, List.set_set, List.nil_append] at hlc
  have hlen := rolls_len 6 hc c3
  have hmem := rolls_mem (m := 6) (by omega) hc c3
  generalize rolls c3 6 hc = RR at hlc hlen hmem
  obtain ⟨hs, c4⟩ := RR
  simp only at hlc hlen hmem
  have hok2 : okH hs := fun n hn => by have := hmem n hn; omega
  have hl2 : hs.length ≤ 1000 := by omega
  have s8 : (fAsg (fLc 100000 false [6] (fiRng1 (fCons (fCall (FN.len F__law_roll 2) (fCons (fVar 1) (fCons (fC (.int 9)) (fNil)))) (fNil))) (gtName 6) (fYes) (fCall (FN.len F__law_roll 2) (fCons (fVar 1) (fCons (fC (.int 6)) (fNil))))) (gtName 8)) [o0, some (.ref n), some (.lst (row.map D.int)), some (.int (w : Int)), some (.lst R), some (.ref T2.length), p6, p7, o8, o9, o10, o11, o12, o13, o14] (T2 ++ [O.lst (nexts row)])
      = .nx [o0, some (.ref n), some (.lst (row.map D.int)), some (.int (w : Int)), some (.lst R), some (.ref T2.length), p6, p7, some (.lst (hs.map D.int)), o9, o10, o11, o12, o13, o14] ((T2 ++ [O.lst (nexts row)]).set n (dO c4)) := by
    have hr := rng1_at (fa := (fCons (fCall (FN.len F__law_roll 2) (fCons (fVar 1) (fCons (fC (.int 9)) (fNil)))) (fNil))) (en := [o0, some (.ref n), some (.lst (row.map D.int)), some (.int (w : Int)), some (.lst R), some (.ref T2.length), p6, p7, o8, o9, o10, o11, o12, o13, o14]) (S := T2 ++ [O.lst (nexts row)]) (S1 := (T2 ++ [O.lst (nexts row)]).set n (dO c3)) (j := h0) (n := hc) (by simp [r3]) hhc (by omega)
    rw [fAsg_eq, fLc_eq, hr, bind_ok, lcT_items]
    simp only [wipe_cons, wipe_nil, List.set_cons_succ, List.set_cons_zero, hlc, noX_ok, bind_ok, newL_f, ofO_some, then_ok, gtName_eq, flG_some]
  have hT4 : (T2 ++ [O.lst (nexts row)]).set n (dO c4) = T.set n (dO c4) ++ [O.lst (nexts row)] := by
    rw [List.set_append_left _ _ hn, hset]
  rw [hT4] at s8
  -- the brute search
  have z3 : (3 : Nat) ≤ sizeLine := small_le (by decide)
  have s9 : (fAsg (fTup (fCons (fC (.int 0)) (fCons (fC (.int 0)) (fCons (fC (.int 0)) (fNil))))) (gtName 9)) [o0, some (.ref n), some (.lst (row.map D.int)), some (.int (w : Int)), some (.lst R), some (.ref T2.length), p6, p7, some (.lst (hs.map D.int)), o9, o10, o11, o12, o13, o14] (T.set n (dO c4) ++ [O.lst (nexts row)])
      = .nx [o0, some (.ref n), some (.lst (row.map D.int)), some (.int (w : Int)), some (.lst R), some (.ref T2.length), p6, p7, some (.lst (hs.map D.int)), some (tD (0, 0, 0)), o10, o11, o12, o13, o14] (T.set n (dO c4) ++ [O.lst (nexts row)]) := by
    simp [z3, tD]
  generalize hT5 : T.set n (dO c4) ++ [O.lst (nexts row)] = T5 at s8 s9
  obtain ⟨cb, p10, p11, p12, gcb, _, amax, e10⟩ := br_out (K := K) (C := C) (T := T5) (o0 := o0) (o1 := some (.ref n)) (o2 := some (.lst (row.map D.int))) (o3 := some (.int (w : Int))) (o4 := some (.lst R)) (o5 := some (.ref T2.length)) (o6 := p6) (o7 := p7) (o13 := o13) (o14 := o14) hok2 hl2 hs.length 0 (0, 0, 0) o10 o11 o12 (by omega) (.inl rfl)
  have s10 : (fFor 100000 (fiRng1 (fCons (fCB gLen (fCons (fVar 8) (fNil))) (fNil))) (gtName 10) (f_law_b3 K C F__law_rounds F__law_roll F__law_row (F_windows C) F_next_greater F_widest)) [o0, some (.ref n), some (.lst (row.map D.int)), some (.int (w : Int)), some (.lst R), some (.ref T2.length), p6, p7, some (.lst (hs.map D.int)), some (tD (0, 0, 0)), o10, o11, o12, o13, o14] T5
      = .nx [o0, some (.ref n), some (.lst (row.map D.int)), some (.int (w : Int)), some (.lst R), some (.ref T2.length), p6, p7, some (.lst (hs.map D.int)), some (tD cb), p10, p11, p12, o13, o14] T5 := by
    rw [fFor_eq, rng1_at (S1 := T5) (j := (hs.length : Int)) (n := hs.length) (by simp) rfl (by omega), then_ok]
    exact e10
  have s11 : (fAsg (fCall (FN.len F_widest 1) (fCons (fVar 8) (fNil))) (gtName 13)) [o0, some (.ref n), some (.lst (row.map D.int)), some (.int (w : Int)), some (.lst R), some (.ref T2.length), p6, p7, some (.lst (hs.map D.int)), some (tD cb), p10, p11, p12, o13, o14] T5
      = .nx [o0, some (.ref n), some (.lst (row.map D.int)), some (.int (w : Int)), some (.lst R), some (.ref T2.length), p6, p7, some (.lst (hs.map D.int)), some (tD cb), p10, p11, p12, some (tD (runB (hh hs) (hs.length + 1)).2), o14] T5 := by
    simp [widest_at hl2 hok2]
  have Iv := run_inv (hh hs) hs.length (hs.length + 1) (Nat.le_refl _)
  have hfin := Wd.fin (h := hh hs) (n := hs.length) (c := cb) (by simp [hh]) Iv gcb (fun lo hi m h1 h2 => by
    have := low_uniq h2 (low_least h2.1 h1)
    rw [this]
    exact amax lo hi (Nat.zero_le _) h2.1 h1)
  have gb := Iv.ok
  generalize (runB (hh hs) (hs.length + 1)).2 = b at s11 hfin gb
  have t1 := told_ok (T := T5) (o0 := o0) (o1 := some (.ref n)) (o2 := some (.lst (row.map D.int))) (o3 := some (.int (w : Int))) (o4 := some (.lst R)) (o5 := some (.ref T2.length)) (o6 := p6) (o7 := p7) (o10 := p10) (o11 := p11) (o12 := p12) (o14 := o14) hok2 gb hfin.1 hfin.2
  have t2 := told_le (T := T5) (hs := hs) (o0 := o0) (o1 := some (.ref n)) (o2 := some (.lst (row.map D.int))) (o3 := some (.int (w : Int))) (o4 := some (.lst R)) (o5 := some (.ref T2.length)) (o6 := p6) (o7 := p7) (o10 := p10) (o11 := p11) (o12 := p12) (o14 := o14) hfin.1 hfin.2
  have w0 := windows_0 (C := C) (row := row) (g := true) T5
  refine ⟨c4, nexts row, some (.ref n), some (.lst (row.map D.int)), some (.int (w : Int)), some (.lst R), some (.ref T2.length), p6, p7, some (.lst (hs.map D.int)), some (tD cb), p10, p11, p12, some (tD b), o14, ?_⟩
  unfold f_law_b1
  rw [fSeq_eq, s1, seq_nx, fSeq_eq, s2, seq_nx, fSeq_eq, s3, seq_nx, fSeq_eq, s4, seq_nx, fSeq_eq, s5, seq_nx, fSeq_eq, s6, seq_nx, fSeq_eq, s7, seq_nx, fSeq_eq, s8, seq_nx, fSeq_eq, s9, seq_nx, fSeq_eq, s10, seq_nx, fSeq_eq, s11, seq_nx]
  rw [fSeq_eq, fIte_eq, t1, then_ok, if_neg Bool.false_ne_true, fNext_eq, seq_nx]
  rw [fSeq_eq, fIte_eq, t2, then_ok, if_neg Bool.false_ne_true, fNext_eq, seq_nx]
  rw [hT5]
  simp [w0, handle, x, quiet]
/-- all rounds -/
theorem law_all (x : PySem.W.exmOne K (.ref C) (.ref C) = some true) : ∀ (m k : Nat) (J : So) (o1 o2 o3 o4 o5 o6 o7 o8 o9 o10 o11 o12 o13 o14 : Option D), (∀ i, i < m → ∃ c, J[k + i]? = some (dO c)) →
    ∃ J' p1 p2 p3 p4 p5 p6 p7 p8 p9 p10 p11 p12 p13 p14, forL (gtName 1) (f_law_b1 K C F__law_rounds F__law_roll F__law_row (F_windows C) F_next_greater F_widest) (refsFrom (S.length + k) m) [o0, o1, o2, o3, o4, o5, o6, o7, o8, o9, o10, o11, o12, o13, o14] (S ++ J)
      = .nx [o0, p1, p2, p3, p4, p5, p6, p7, p8, p9, p10, p11, p12, p13, p14] (S ++ J')
  | 0, k, J, o1, o2, o3, o4, o5, o6, o7, o8, o9, o10, o11, o12, o13, o14, h => ⟨J, o1, o2, o3, o4, o5, o6, o7, o8, o9, o10, o11, o12, o13, o14, rfl⟩
  | m + 1, k, J, o1, o2, o3, o4, o5, o6, o7, o8, o9, o10, o11, o12, o13, o14, h => by
    obtain ⟨c, hc⟩ := h 0 (by omega)
    obtain ⟨c', due, q1, q2, q3, q4, q5, q6, q7, q8, q9, q10, q11, q12, q13, q14, e⟩ := law_turn (K := K) (C := C) (T := S ++ J) (n := S.length + k) (o0 := o0) (o2 := o2) (o3 := o3) (o4 := o4) (o5 := o5) (o6 := o6) (o7 := o7) (o8 := o8) (o9 := o9) (o10 := o10) (o11 := o11) (o12 := o12) (o13 := o13) (o14 := o14) x (by simpa using hc)
    rw [set_atk, List.append_assoc] at e
    have hk : k < J.length := (List.getElem?_eq_some_iff.mp hc).1
    obtain ⟨J', r⟩ := law_all x m (k + 1) (J.set k (dO c') ++ [.lst due]) q1 q2 q3 q4 q5 q6 q7 q8 q9 q10 q11 q12 q13 q14 (fun i hi => by
      obtain ⟨d, hd⟩ := h (i + 1) (by omega)
      have hl : k + (i + 1) < J.length := (List.getElem?_eq_some_iff.mp hd).1
      refine ⟨d, ?_⟩
      rw [show k + 1 + i = k + (i + 1) by omega, List.getElem?_append_left (by simpa using hl), List.getElem?_set_ne (by omega)]
      exact hd)
    refine ⟨J', ?_⟩
    obtain ⟨p1, p2, p3, p4, p5, p6, p7, p8, p9, p10, p11, p12, p13, p14, r⟩ := r
    refine ⟨p1, p2, p3, p4, p5, p6, p7, p8, p9, p10, p11, p12, p13, p14, ?_⟩
    rw [← r]
    exact for_cons (by simp) e
def F_law : FN := fun ds S => match ds with
  | [.scr ns] => .ok (.bl true) S
  | _ => .no
theorem eq_law (K : PySem.W.Frag) (C : Addr) (x : PySem.W.exmOne K (.ref C) (.ref C) = some true) (ds : List D) (S : So) (hl : ds.length = 1) (hc : clS S) (hd : clDs S.length ds) : RetOk S (f_law K C F__law_rounds F__law_roll F__law_row (F_windows C) F_next_greater F_widest (startD ["script", "dice", "row", "wide", "places", "due", "k", "later", "heights", "best", "low", "high", "area", "told", "j"] ds) S) (F_law ds S) := by
  unfold F_law
  split
  · rename_i ns
    have hr : F__law_rounds [.scr ns, .int 5] S = .ok (.lst (refsFrom S.length (cells ns 5).length)) (S ++ (cells ns 5).map diceO) := by
      simp only [F__law_rounds]
      rw [if_pos (by omega)]
    generalize cells ns 5 = cs at hr
    obtain ⟨J', p1, p2, p3, p4, p5, p6, p7, p8, p9, p10, p11, p12, p13, p14, e⟩ := law_all (K := K) (C := C) (S := S) (o0 := some (.scr ns)) x cs.length 0 (cs.map diceO) none none none none none none none none none none none none none none (fun i hi => ⟨dice0 cs[i], by simp [hi, diceO_eq]⟩)
    rw [Nat.add_zero] at e
    have e1 : f_law K C F__law_rounds F__law_roll F__law_row (F_windows C) F_next_greater F_widest (startD ["script", "dice", "row", "wide", "places", "due", "k", "later", "heights", "best", "low", "high", "area", "told", "j"] [.scr ns]) S = .rt (.bl true) (S ++ J') := by
      simp [f_law, hr, e]
    rw [e1]
    exact ret_junk hc (by simp [clD])
  · exact ret_no
end law
end Law

namespace Law
open PySem L2 PF
section oks
variable {P : Program} {w : World} {K : PySem.W.Frag} {mg : Str → Option Value} {base : Heap} {f : Addr} {fd : FuncData} {C_BadKey C_BadDeed : Addr}
theorem ok_is_key (R : Fun K "is_key" "is_key" s_is_key f fd) (T : T_is_key K mg) :
    FnOk P w K mg base (L2.CX P w) 1 f fd ["thing"] (spD K F_is_key 1) :=
  fn_ok R sc_is_key (fun cdv A outer s H E hr => d_is_key T hr) eq_is_key
theorem ok_check_key (R : Fun K "check_key" "check_key" s_check_key f fd) (T : T_check_key K mg C_BadKey)
    (c_is_key : Cal P w K mg base "is_key" ["thing"] 1 F_is_key) :
    FnOk P w K mg base (L2.CX P w) 2 f fd ["thing"] (spD K (F_check_key C_BadKey) 1) :=
  fn_ok R sc_check_key (fun cdv A outer s H E hr => d_check_key T c_is_key (by decide) hr) (eq_check_key C_BadKey)
theorem ok_windows (R : Fun K "windows" "windows" s_windows f fd) (T : T_windows K mg C_BadDeed)
    (c_check_key : Cal P w K mg base "check_key" ["thing"] 2 (F_check_key C_BadKey)) :
    FnOk P w K mg base (L2.CX P w) 3 f fd ["row", "wide", "greatest"] (spD K (F_windows C_BadDeed) 3) :=
  fn_ok R sc_windows (fun cdv A outer s H E hr => d_windows T c_check_key (by decide) hr) (eq_windows C_BadKey C_BadDeed)
theorem ok_next_greater (R : Fun K "next_greater" "next_greater" s_next_greater f fd) (T : T_next_greater K mg) :
    FnOk P w K mg base (L2.CX P w) 1 f fd ["row"] (spD K F_next_greater 1) :=
  fn_ok R sc_next_greater (fun cdv A outer s H E hr => d_next_greater T hr) eq_next_greater
theorem ok_widest (R : Fun K "widest" "widest" s_widest f fd) (T : T_widest K mg) :
    FnOk P w K mg base (L2.CX P w) 1 f fd ["heights"] (spD K F_widest 1) :=
  fn_ok R sc_widest (fun cdv A outer s H E hr => d_widest T hr) eq_widest
theorem ok__law_dice (R : Fun K "_law_dice" "_law_dice" s__law_dice f fd) (T : T__law_dice K mg) :
    FnOk P w K mg base (L2.CX P w) 1 f fd ["cell"] (spD K F__law_dice 1) :=
  fn_ok R sc__law_dice (fun cdv A outer s H E hr => d__law_dice T hr) eq__law_dice
theorem ok__law_roll (R : Fun K "_law_roll" "_law_roll" s__law_roll f fd) (T : T__law_roll K mg) :
    FnOk P w K mg base (L2.CX P w) 1 f fd ["dice", "many"] (spD K F__law_roll 2) :=
  fn_ok R sc__law_roll (fun cdv A outer s H E hr => d__law_roll T hr) eq__law_roll
theorem ok__law_rounds (R : Fun K "_law_rounds" "_law_rounds" s__law_rounds f fd) (T : T__law_rounds K mg)
    (c__law_dice : Cal P w K mg base "_law_dice" ["cell"] 1 F__law_dice) :
    FnOk P w K mg base (L2.CX P w) 2 f fd ["script", "most"] (spD K F__law_rounds 2) :=
  fn_ok R sc__law_rounds (fun cdv A outer s H E hr => d__law_rounds T c__law_dice (by decide) hr) eq__law_rounds
theorem ok__law_row (R : Fun K "_law_row" "_law_row" s__law_row f fd) (T : T__law_row K mg)
    (c__law_roll : Cal P w K mg base "_law_roll" ["dice", "many"] 1 F__law_roll) :
    FnOk P w K mg base (L2.CX P w) 2 f fd ["dice", "most", "wide"] (spD K F__law_row 3) :=
  fn_ok R sc__law_row (fun cdv A outer s H E hr => d__law_row T c__law_roll (by decide) hr) eq__law_row
theorem ok_law (R : Fun K "law" "law" s_law f fd) (T : T_law K mg C_BadDeed)
    (c__law_rounds : Cal P w K mg base "_law_rounds" ["script", "most"] 2 F__law_rounds)
    (c__law_roll : Cal P w K mg base "_law_roll" ["dice", "many"] 1 F__law_roll)
    (c__law_row : Cal P w K mg base "_law_row" ["dice", "most", "wide"] 2 F__law_row)
    (c_windows : Cal P w K mg base "windows" ["row", "wide", "greatest"] 3 (F_windows C_BadDeed))
    (c_next_greater : Cal P w K mg base "next_greater" ["row"] 1 F_next_greater)
    (c_widest : Cal P w K mg base "widest" ["heights"] 1 F_widest) (x_BadDeed_BadDeed : PySem.W.exmOne K (.ref C_BadDeed) (.ref C_BadDeed) = some true) :
    FnOk P w K mg base (L2.CX P w) 4 f fd ["script"] (spD K F_law 1) :=
  fn_ok R sc_law (fun cdv A outer s H E hr => d_law T c__law_rounds (by decide) c__law_roll (by decide) c__law_row (by decide) c_windows (by decide) c_next_greater (by decide) c_widest (by decide) hr) (eq_law K C_BadDeed x_BadDeed_BadDeed)
end oks
theorem law_start {K : PySem.W.Frag} {H : Hp} {a : Addr} {ns : List Int} (hl : ns.length ≤ 63) (hO : Only H) (hS : SqL K H a (ns.map V.int)) : spD K F_law 1 [.ref a] H (fun v _ => v = .bl true) fun _ _ _ => False :=
  PF.law_start (m := 63) (fun ns _ => ⟨[], rfl⟩) hl hO hS
set_option maxHeartbeats 4000000 in
theorem all_mk {P : Program} {w : World} {K : PySem.W.Frag} {h : Heap} {mg : Str → Option Value} {fa a_is_key a_check_key a_windows a_next_greater a_widest a__law_dice a__law_roll a__law_rounds a__law_row a_law C_BadKey C_BadDeed : Addr} {od_is_key an_is_key od_check_key an_check_key od_windows an_windows od_next_greater an_next_greater od_widest an_widest od__law_dice an__law_dice od__law_roll an__law_roll od__law_rounds an__law_rounds od__law_row an__law_row od_law an_law : Option Addr} {sl_is_key sl_check_key sl_windows sl_next_greater sl_widest sl__law_dice sl__law_roll sl__law_rounds sl__law_row sl_law : Array (Option Value)} {oc_is_key kV_is_key dc_is_key pm_is_key cd_is_key ct_is_key oc_check_key kV_check_key dc_check_key pm_check_key cd_check_key ct_check_key oc_windows kV_windows dc_windows pm_windows cd_windows ct_windows oc_next_greater kV_next_greater dc_next_greater pm_next_greater cd_next_greater ct_next_greater oc_widest kV_widest dc_widest pm_widest cd_widest ct_widest oc__law_dice kV__law_dice dc__law_dice pm__law_dice cd__law_dice ct__law_dice oc__law_roll kV__law_roll dc__law_roll pm__law_roll cd__law_roll ct__law_roll oc__law_rounds kV__law_rounds dc__law_rounds pm__law_rounds cd__law_rounds ct__law_rounds oc__law_row kV__law_row dc__law_row pm__law_row cd__law_row ct__law_row oc_law kV_law dc_law pm_law cd_law ct_law : Value} {t_FAR : Tok} (X : K.In h) (G : h.Ns mainGlobals mg) (hfa : mg "law" = some (.ref fa))
    (g_is_key : PySem.W.nsIn K mainGlobals "is_key" = some (some (.ref a_is_key)))
    (l_is_key : K.lookup a_is_key = some ⟨oc_is_key, od_is_key, .func (PySem.W.fnOf "is_key" "is_key" (defArgs s_is_key) (defBody s_is_key) (defScope s_is_key) .none kV_is_key dc_is_key pm_is_key an_is_key cd_is_key ct_is_key), sl_is_key⟩)
    (c_is_key : PySem.W.codeIn K cd_is_key "is_key" = true)
    (k_is_key : PySem.W.keepIn K (.ref a_is_key) = true)
    (g_check_key : PySem.W.nsIn K mainGlobals "check_key" = some (some (.ref a_check_key)))
    (l_check_key : K.lookup a_check_key = some ⟨oc_check_key, od_check_key, .func (PySem.W.fnOf "check_key" "check_key" (defArgs s_check_key) (defBody s_check_key) (defScope s_check_key) .none kV_check_key dc_check_key pm_check_key an_check_key cd_check_key ct_check_key), sl_check_key⟩)
    (c_check_key : PySem.W.codeIn K cd_check_key "check_key" = true)
    (k_check_key : PySem.W.keepIn K (.ref a_check_key) = true)
    (g_windows : PySem.W.nsIn K mainGlobals "windows" = some (some (.ref a_windows)))
    (l_windows : K.lookup a_windows = some ⟨oc_windows, od_windows, .func (PySem.W.fnOf "windows" "windows" (defArgs s_windows) (defBody s_windows) (defScope s_windows) .none kV_windows dc_windows pm_windows an_windows cd_windows ct_windows), sl_windows⟩)
    (c_windows : PySem.W.codeIn K cd_windows "windows" = true)
    (k_windows : PySem.W.keepIn K (.ref a_windows) = true)
    (g_next_greater : PySem.W.nsIn K mainGlobals "next_greater" = some (some (.ref a_next_greater)))
    (l_next_greater : K.lookup a_next_greater = some ⟨oc_next_greater, od_next_greater, .func (PySem.W.fnOf "next_greater" "next_greater" (defArgs s_next_greater) (defBody s_next_greater) (defScope s_next_greater) .none kV_next_greater dc_next_greater pm_next_greater an_next_greater cd_next_greater ct_next_greater), sl_next_greater⟩)
    (c_next_greater : PySem.W.codeIn K cd_next_greater "next_greater" = true)
    (k_next_greater : PySem.W.keepIn K (.ref a_next_greater) = true)
    (g_widest : PySem.W.nsIn K mainGlobals "widest" = some (some (.ref a_widest)))
    (l_widest : K.lookup a_widest = some ⟨oc_widest, od_widest, .func (PySem.W.fnOf "widest" "widest" (defArgs s_widest) (defBody s_widest) (defScope s_widest) .none kV_widest dc_widest pm_widest an_widest cd_widest ct_widest), sl_widest⟩)
    (c_widest : PySem.W.codeIn K cd_widest "widest" = true)
    (k_widest : PySem.W.keepIn K (.ref a_widest) = true)
    (g__law_dice : PySem.W.nsIn K mainGlobals "_law_dice" = some (some (.ref a__law_dice)))
    (l__law_dice : K.lookup a__law_dice = some ⟨oc__law_dice, od__law_dice, .func (PySem.W.fnOf "_law_dice" "_law_dice" (defArgs s__law_dice) (defBody s__law_dice) (defScope s__law_dice) .none kV__law_dice dc__law_dice pm__law_dice an__law_dice cd__law_dice ct__law_dice), sl__law_dice⟩)
    (c__law_dice : PySem.W.codeIn K cd__law_dice "_law_dice" = true)
    (k__law_dice : PySem.W.keepIn K (.ref a__law_dice) = true)
    (g__law_roll : PySem.W.nsIn K mainGlobals "_law_roll" = some (some (.ref a__law_roll)))
    (l__law_roll : K.lookup a__law_roll = some ⟨oc__law_roll, od__law_roll, .func (PySem.W.fnOf "_law_roll" "_law_roll" (defArgs s__law_roll) (defBody s__law_roll) (defScope s__law_roll) .none kV__law_roll dc__law_roll pm__law_roll an__law_roll cd__law_roll ct__law_roll), sl__law_roll⟩)
    (c__law_roll : PySem.W.codeIn K cd__law_roll "_law_roll" = true)
    (k__law_roll : PySem.W.keepIn K (.ref a__law_roll) = true)
    (g__law_rounds : PySem.W.nsIn K mainGlobals "_law_rounds" = some (some (.ref a__law_rounds)))
    (l__law_rounds : K.lookup a__law_rounds = some ⟨oc__law_rounds, od__law_rounds, .func (PySem.W.fnOf "_law_rounds" "_law_rounds" (defArgs s__law_rounds) (defBody s__law_rounds) (defScope s__law_rounds) .none kV__law_rounds dc__law_rounds pm__law_rounds an__law_rounds cd__law_rounds ct__law_rounds), sl__law_rounds⟩)
    (c__law_rounds : PySem.W.codeIn K cd__law_rounds "_law_rounds" = true)
    (k__law_rounds : PySem.W.keepIn K (.ref a__law_rounds) = true)
    (g__law_row : PySem.W.nsIn K mainGlobals "_law_row" = some (some (.ref a__law_row)))
    (l__law_row : K.lookup a__law_row = some ⟨oc__law_row, od__law_row, .func (PySem.W.fnOf "_law_row" "_law_row" (defArgs s__law_row) (defBody s__law_row) (defScope s__law_row) .none kV__law_row dc__law_row pm__law_row an__law_row cd__law_row ct__law_row), sl__law_row⟩)
    (c__law_row : PySem.W.codeIn K cd__law_row "_law_row" = true)
    (k__law_row : PySem.W.keepIn K (.ref a__law_row) = true)
    (g_law : PySem.W.nsIn K mainGlobals "law" = some (some (.ref a_law)))
    (l_law : K.lookup a_law = some ⟨oc_law, od_law, .func (PySem.W.fnOf "law" "law" (defArgs s_law) (defBody s_law) (defScope s_law) .none kV_law dc_law pm_law an_law cd_law ct_law), sl_law⟩)
    (c_law : PySem.W.codeIn K cd_law "law" = true)
    (k_law : PySem.W.keepIn K (.ref a_law) = true)
    (eg_BadKey : PySem.W.nsIn K mainGlobals "BadKey" = some (some (.ref C_BadKey)))
    (eq_BadKey : PySem.W.excIn K C_BadKey [.type "ValueError", .type "Exception", .type "BaseException", .type "object"] "ValueError.__new__" = true)
    (ek_BadKey : PySem.W.keepIn K (.ref C_BadKey) = true)
    (eb_BadKey : PySem.W.subIn K (.ref C_BadKey) (.type "BaseException") = some true)
    (et_BadKey : PySem.W.typeIn K (.ref C_BadKey) = some (.type "type"))
    (eg_BadDeed : PySem.W.nsIn K mainGlobals "BadDeed" = some (some (.ref C_BadDeed)))
    (eq_BadDeed : PySem.W.excIn K C_BadDeed [.type "ValueError", .type "Exception", .type "BaseException", .type "object"] "ValueError.__new__" = true)
    (ek_BadDeed : PySem.W.keepIn K (.ref C_BadDeed) = true)
    (eb_BadDeed : PySem.W.subIn K (.ref C_BadDeed) (.type "BaseException") = some true)
    (et_BadDeed : PySem.W.typeIn K (.ref C_BadDeed) = some (.type "type"))
    (x_BadDeed_BadDeed : PySem.W.exmOne K (.ref C_BadDeed) (.ref C_BadDeed) = some true)
    (b_abs : PySem.W.nsIn K mainGlobals "abs" = some none)
    (b_bool : PySem.W.nsIn K mainGlobals "bool" = some none)
    (b_enumerate : PySem.W.nsIn K mainGlobals "enumerate" = some none)
    (b_int : PySem.W.nsIn K mainGlobals "int" = some none)
    (b_isinstance : PySem.W.nsIn K mainGlobals "isinstance" = some none)
    (b_len : PySem.W.nsIn K mainGlobals "len" = some none)
    (b_list : PySem.W.nsIn K mainGlobals "list" = some none)
    (b_max : PySem.W.nsIn K mainGlobals "max" = some none)
    (b_min : PySem.W.nsIn K mainGlobals "min" = some none)
    (b_range : PySem.W.nsIn K mainGlobals "range" = some none)
    (b_tuple : PySem.W.nsIn K mainGlobals "tuple" = some none)
    (v_FAR : PySem.W.nsIn K mainGlobals "FAR" = some (some (.int 1000000000 t_FAR))) :
    ∃ fd : FuncData, (∀ (s : Shared) (v : Value), BindsTo s fd ⟨[v], []⟩ [("script", v)]) ∧ ∀ base : Heap, K.In base → base.Ns mainGlobals mg → FnOk P w K mg base (L2.CX P w) 4 fa fd ["script"] (spD K F_law 1) := by
  have e := hfa.symm.trans (PySem.W.mg_of X G g_law)
  cases e
  have E_BadKey : Exc K mg "BadKey" C_BadKey := ⟨PySem.W.mg_of X G eg_BadKey, eq_BadKey, ek_BadKey, eb_BadKey, et_BadKey⟩
  have E_BadDeed : Exc K mg "BadDeed" C_BadDeed := ⟨PySem.W.mg_of X G eg_BadDeed, eq_BadDeed, ek_BadDeed, eb_BadDeed, et_BadDeed⟩
  have B_abs := PySem.W.mg_none_of X G b_abs
  have B_bool := PySem.W.mg_none_of X G b_bool
  have B_enumerate := PySem.W.mg_none_of X G b_enumerate
  have B_int := PySem.W.mg_none_of X G b_int
  have B_isinstance := PySem.W.mg_none_of X G b_isinstance
  have B_len := PySem.W.mg_none_of X G b_len
  have B_list := PySem.W.mg_none_of X G b_list
  have B_max := PySem.W.mg_none_of X G b_max
  have B_min := PySem.W.mg_none_of X G b_min
  have B_range := PySem.W.mg_none_of X G b_range
  have B_tuple := PySem.W.mg_none_of X G b_tuple
  have V_FAR := PySem.W.mg_of X G v_FAR
  have R_is_key := fun_mk (st := s_is_key) l_is_key c_is_key k_is_key
  have R_check_key := fun_mk (st := s_check_key) l_check_key c_check_key k_check_key
  have R_windows := fun_mk (st := s_windows) l_windows c_windows k_windows
  have R_next_greater := fun_mk (st := s_next_greater) l_next_greater c_next_greater k_next_greater
  have R_widest := fun_mk (st := s_widest) l_widest c_widest k_widest
  have R__law_dice := fun_mk (st := s__law_dice) l__law_dice c__law_dice k__law_dice
  have R__law_roll := fun_mk (st := s__law_roll) l__law_roll c__law_roll k__law_roll
  have R__law_rounds := fun_mk (st := s__law_rounds) l__law_rounds c__law_rounds k__law_rounds
  have R__law_row := fun_mk (st := s__law_row) l__law_row c__law_row k__law_row
  have R_law := fun_mk (st := s_law) l_law c_law k_law
  refine ⟨PySem.W.fnOf "law" "law" (defArgs s_law) (defBody s_law) (defScope s_law) .none kV_law dc_law pm_law an_law cd_law ct_law, fun s v => .of_eq rfl, fun base _ _ => ?_⟩
  have K_is_key : Cal P w K mg base "is_key" _ _ _ := ⟨_, _, PySem.W.mg_of X G g_is_key, k_is_key, R_is_key.binds (ps := ["thing"]) (fun _ _ _ _ _ _ us hl => match us, hl with | [_], _ => rfl), ok_is_key R_is_key ⟨B_bool, B_int, B_isinstance, ⟨_, V_FAR⟩⟩  ⟩
  have K_check_key : Cal P w K mg base "check_key" _ _ _ := ⟨_, _, PySem.W.mg_of X G g_check_key, k_check_key, R_check_key.binds (ps := ["thing"]) (fun _ _ _ _ _ _ us hl => match us, hl with | [_], _ => rfl), ok_check_key R_check_key ⟨E_BadKey⟩ K_is_key ⟩
  have K_windows : Cal P w K mg base "windows" _ _ _ := ⟨_, _, PySem.W.mg_of X G g_windows, k_windows, R_windows.binds (ps := ["row", "wide", "greatest"]) (fun _ _ _ _ _ _ us hl => match us, hl with | [_, _, _], _ => rfl), ok_windows R_windows ⟨B_enumerate, B_tuple, E_BadDeed⟩ K_check_key ⟩
  have K_next_greater : Cal P w K mg base "next_greater" _ _ _ := ⟨_, _, PySem.W.mg_of X G g_next_greater, k_next_greater, R_next_greater.binds (ps := ["row"]) (fun _ _ _ _ _ _ us hl => match us, hl with | [_], _ => rfl), ok_next_greater R_next_greater ⟨B_enumerate, B_len, B_tuple⟩  ⟩
  have K_widest : Cal P w K mg base "widest" _ _ _ := ⟨_, _, PySem.W.mg_of X G g_widest, k_widest, R_widest.binds (ps := ["heights"]) (fun _ _ _ _ _ _ us hl => match us, hl with | [_], _ => rfl), ok_widest R_widest ⟨B_len, B_range⟩  ⟩
  have K__law_dice : Cal P w K mg base "_law_dice" _ _ _ := ⟨_, _, PySem.W.mg_of X G g__law_dice, k__law_dice, R__law_dice.binds (ps := ["cell"]) (fun _ _ _ _ _ _ us hl => match us, hl with | [_], _ => rfl), ok__law_dice R__law_dice ⟨B_abs, B_int⟩  ⟩
  have K__law_roll : Cal P w K mg base "_law_roll" _ _ _ := ⟨_, _, PySem.W.mg_of X G g__law_roll, k__law_roll, R__law_roll.binds (ps := ["dice", "many"]) (fun _ _ _ _ _ _ us hl => match us, hl with | [_, _], _ => rfl), ok__law_roll R__law_roll ⟨B_int⟩  ⟩
  have K__law_rounds : Cal P w K mg base "_law_rounds" _ _ _ := ⟨_, _, PySem.W.mg_of X G g__law_rounds, k__law_rounds, R__law_rounds.binds (ps := ["script", "most"]) (fun _ _ _ _ _ _ us hl => match us, hl with | [_, _], _ => rfl), ok__law_rounds R__law_rounds ⟨trivial⟩ K__law_dice ⟩
  have K__law_row : Cal P w K mg base "_law_row" _ _ _ := ⟨_, _, PySem.W.mg_of X G g__law_row, k__law_row, R__law_row.binds (ps := ["dice", "most", "wide"]) (fun _ _ _ _ _ _ us hl => match us, hl with | [_, _, _], _ => rfl), ok__law_row R__law_row ⟨B_range⟩ K__law_roll ⟩
  exact ok_law R_law ⟨B_len, B_list, B_max, B_min, B_range, E_BadDeed⟩ K__law_rounds K__law_roll K__law_row K_windows K_next_greater K_widest x_BadDeed_BadDeed
theorem law_walk {l : PySem.W.OpenLaw} {q : Program} {loose : List Str} {XP : (Str → Option Value) → Heap → Prop} {YP : World → Heap → Prop} {d : DefRec} {K : Params → PySem.W.Frag} (hn : l.most = some 63) (hdf : d.params.defaults = [])
    (hY : ∀ (w : World) (h : Heap), YP w h → (K w.params).In h)
    (F : ∀ (w : World) (mg : Str → Option Value) (fa : Addr) (h : Heap), (K w.params).In h → h.Ns mainGlobals mg → mg d.name = some (.ref fa) →
      ∃ fd : FuncData, (∀ (s : Shared) (u : Value), BindsTo s fd ⟨[u], []⟩ [("script", u)]) ∧ ∀ base : Heap, (K w.params).In base → base.Ns mainGlobals mg → FnOk l.prog w (K w.params) mg base (L2.CX l.prog w) 4 fa fd ["script"] (spD (K w.params) F_law 1)) :
    PySem.W.WalkO q loose XP YP l.row.toRowW d [] (fun f vs => PySem.call f vs) :=
  L2.walk_of (n := 63) (k := 4) (x := "script") (CX := fun w => L2.CX l.prog w) (sp := fun w => spD (K w.params) F_law 1) hn (by decide) hdf ⟨rfl, by decide, by decide⟩ hY F (fun w H a ns hl hO hS => law_start hl hO hS)
    (fun w H s e s' z => by obtain ⟨_, _, _, _, _, _, _, _, _, _, _, _, z⟩ := z; exact z)
end Law
open PySem PySem.W PyProof.Rows
set_option maxRecDepth 100000 in
set_option maxHeartbeats 0 in
theorem PySem.Challenge.cw_heapyard_k16_windows_and_blocks_holds : PySem.Challenge.rw_heapyard_k16_windows_and_blocks.Holds := by
  w_on; o_law; k_head; (case hw => w_witness2)
  k_fill
  refine Law.law_walk (l := PySem.Challenge.rw_heapyard_k16_windows_and_blocks) rfl rfl (fun w h Y => PySem.W.kIn_of Y) ?F
  case F =>
    intro w mg fa h KX G hmg
    refine' Law.all_mk KX G hmg ?g_is_key ?l_is_key ?c_is_key ?k_is_key ?g_check_key ?l_check_key ?c_check_key ?k_check_key ?g_windows ?l_windows ?c_windows ?k_windows ?g_next_greater ?l_next_greater ?c_next_greater ?k_next_greater ?g_widest ?l_widest ?c_widest ?k_widest ?g__law_dice ?l__law_dice ?c__law_dice ?k__law_dice ?g__law_roll ?l__law_roll ?c__law_roll ?k__law_roll ?g__law_rounds ?l__law_rounds ?c__law_rounds ?k__law_rounds ?g__law_row ?l__law_row ?c__law_row ?k__law_row ?g_law ?l_law ?c_law ?k_law ?eg_BadKey ?eq_BadKey ?ek_BadKey ?eb_BadKey ?et_BadKey ?eg_BadDeed ?eq_BadDeed ?ek_BadDeed ?eb_BadDeed ?et_BadDeed ?x_BadDeed_BadDeed ?b_abs ?b_bool ?b_enumerate ?b_int ?b_isinstance ?b_len ?b_list ?b_max ?b_min ?b_range ?b_tuple ?v_FAR
    (case g_is_key => k_is)
    (case l_is_key => k_is)
    (case c_is_key => k_is)
    (case k_is_key => k_is)
    (case g_check_key => k_is)
    (case l_check_key => k_is)
    (case c_check_key => k_is)
    (case k_check_key => k_is)
    (case g_windows => k_is)
    (case l_windows => k_is)
    (case c_windows => k_is)
    (case k_windows => k_is)
    (case g_next_greater => k_is)
    (case l_next_greater => k_is)
    (case c_next_greater => k_is)
    (case k_next_greater => k_is)
    (case g_widest => k_is)
    (case l_widest => k_is)
    (case c_widest => k_is)
    (case k_widest => k_is)
    (case g__law_dice => k_is)
    (case l__law_dice => k_is)
    (case c__law_dice => k_is)
    (case k__law_dice => k_is)
    (case g__law_roll => k_is)
    (case l__law_roll => k_is)
    (case c__law_roll => k_is)
    (case k__law_roll => k_is)
    (case g__law_rounds => k_is)
    (case l__law_rounds => k_is)
    (case c__law_rounds => k_is)
    (case k__law_rounds => k_is)
    (case g__law_row => k_is)
    (case l__law_row => k_is)
    (case c__law_row => k_is)
    (case k__law_row => k_is)
    (case g_law => k_is)
    (case l_law => k_is)
    (case c_law => k_is)
    (case k_law => k_is)
    (case eg_BadKey => k_is)
    (case eq_BadKey => k_exc)
    (case ek_BadKey => k_is)
    (case eb_BadKey => k_is)
    (case et_BadKey => k_is)
    (case eg_BadDeed => k_is)
    (case eq_BadDeed => k_exc)
    (case ek_BadDeed => k_is)
    (case eb_BadDeed => k_is)
    (case et_BadDeed => k_is)
    (case x_BadDeed_BadDeed => first | k_is | rfl | decide +kernel)
    (case b_abs => k_is)
    (case b_bool => k_is)
    (case b_enumerate => k_is)
    (case b_int => k_is)
    (case b_isinstance => k_is)
    (case b_len => k_is)
    (case b_list => k_is)
    (case b_max => k_is)
    (case b_min => k_is)
    (case b_range => k_is)
    (case b_tuple => k_is)
    (case v_FAR => k_is)

