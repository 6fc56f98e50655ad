import PyProof.Rows.All
import Wide.All
import OpenK.AllK
import Wide.FinOn
import HandS.ForMost
import HandS.Evl
import HandS.IsInst
import HandS.TupAny
import HandS.Deep
import HandS.Zip
import HandS.Flow
import HandS.TupMul
import HandS.Style
import HandS.NoneIn
import HandS.Walk
import HandS.Iter
import HandS.Comp
import HandS.Words
import HandS.Exc
import HandS.SetFor
import HandS.Small
import HandS.Codes
import PyProof.EnumMake
import PyProof.Draws
import KE.GoesMore
import HandS.More
import HandS.TupSets
import HandS.Strs
import HandS.SetBool
import HandS.SortRule
import KE.KSortTupAny
import PySem.Challenge.RW_treesheld_k70_whole_claims
set_option Elab.async false
set_option linter.all false
set_option maxRecDepth 100000
set_option maxHeartbeats 2000000
/-! a layer over the hand layer: defs on plain data, told by what they compute -/
set_option autoImplicit false
namespace Fm
open PySem PySem.Spec PyProof.Rows L2
open Evl (Ex ex_l ex_t ex_rd)

/-! ### monads that tell what can come -/
class WPM (M : Type → Type) extends Monad M where
  wp : {α : Type} → M α → (α → Prop) → Prop
  wp_pure : ∀ {α : Type} {a : α} {P : α → Prop}, wp (pure a : M α) P → P a
  wp_bind : ∀ {α β : Type} {x : M α} {f : α → M β} {P : β → Prop}, wp (x >>= f) P → wp x fun a => wp (f a) P
  fail : {α : Type} → M α
  wp_fail : ∀ {α : Type} {P : α → Prop}, ¬ wp (fail : M α) P
open WPM
instance : WPM Option where
  wp x P := ∃ a, x = some a ∧ P a
  wp_pure := fun ⟨_, e, h⟩ => by cases e; exact h
  wp_bind := fun {α β x f P} h => by
    obtain ⟨b, e, h⟩ := h
    cases x with
    | none => cases e
    | some a => exact ⟨a, rfl, b, e, h⟩
  fail := none
  wp_fail := fun ⟨_, e, _⟩ => by cases e
def lift {M : Type → Type} [WPM M] {α : Type} : Option α → M α
  | some a => pure a
  | none => WPM.fail
theorem wp_lift {M : Type → Type} [WPM M] {α : Type} {o : Option α} {P : α → Prop} (h : wp (lift o : M α) P) : ∃ a, o = some a ∧ P a := by
  cases o with
  | none => exact absurd h wp_fail
  | some a => exact ⟨a, rfl, wp_pure h⟩

/-! ### data -/
inductive D where
  | non | bl (b : Bool) | int (i : Int) | str (s : Str) | lst (xs : List D) | tup (xs : List D) | dct (ks : List Key) (vs : List D) | fn (a : Addr)
mutual
inductive Rp (K : PySem.W.Frag) (H : Hp) : D → V → Prop where
  | non : Rp K H .non .non
  | bl (b : Bool) : Rp K H (.bl b) (.bl b)
  | int (i : Int) : Rp K H (.int i) (.int i)
  | str (x : Str) : Rp K H (.str x) (.str x)
  | lst {a : Addr} {xs : List V} {ds : List D} : H a = some (.lst xs) → RpL K H ds xs → Rp K H (.lst ds) (.ref a)
  | tup {a : Addr} {xs : List V} {ds : List D} : SqT K H a xs → RpL K H ds xs → Rp K H (.tup ds) (.ref a)
  | dct {a : Addr} {kvs : List (Key × V)} {ks : List Key} {ds : List D} : H a = some (.dK kvs) → kvs.map (·.1) = ks → RpL K H ds (kvs.map (·.2)) → Rp K H (.dct ks ds) (.ref a)
  | fn (a : Addr) : Rp K H (.fn a) (.ref a)
inductive RpL (K : PySem.W.Frag) (H : Hp) : List D → List V → Prop where
  | nil : RpL K H [] []
  | cons {d : D} {ds : List D} {v : V} {vs : List V} : Rp K H d v → RpL K H ds vs → RpL K H (d :: ds) (v :: vs)
end
section
variable {K : PySem.W.Frag} {H H' : Hp}
mutual
theorem Rp.mono (e : Ex H H') : ∀ (d : D) (v : V), Rp K H d v → Rp K H' d v
  | .non, _, .non => .non
  | .bl _, _, .bl b => .bl b
  | .int _, _, .int b => .int b
  | .str _, _, .str b => .str b
  | .lst ds, _, .lst h r => .lst (e _ _ h) (RpL.mono e ds _ r)
  | .tup ds, _, .tup h r => .tup (ex_t e h) (RpL.mono e ds _ r)
  | .dct _ ds, _, .dct h z r => .dct (e _ _ h) z (RpL.mono e ds _ r)
  | .fn _, _, .fn a => .fn a
theorem RpL.mono (e : Ex H H') : ∀ (ds : List D) (vs : List V), RpL K H ds vs → RpL K H' ds vs
  | [], _, .nil => .nil
  | d :: ds, _, .cons h r => .cons (Rp.mono e d _ h) (RpL.mono e ds _ r)
end
theorem RpL.length : ∀ {ds : List D} {vs : List V}, RpL K H ds vs → ds.length = vs.length
  | [], _, .nil => rfl
  | _ :: _, _, .cons _ r => by simp [r.length]
theorem RpL.get : ∀ {ds : List D} {vs : List V} {i : Nat} {v : V}, RpL K H ds vs → vs[i]? = some v → ∃ d, ds[i]? = some d ∧ Rp K H d v
  | [], _, i, v, .nil, e => by simp at e
  | d :: ds, _ :: _, 0, v, .cons h r, e => by simp at e; subst e; exact ⟨d, rfl, h⟩
  | d :: ds, _ :: _, i + 1, v, .cons h r, e => by
    obtain ⟨d', h1, h2⟩ := RpL.get (i := i) r (by simpa using e)
    exact ⟨d', by simpa using h1, h2⟩
theorem RpL.get' : ∀ {ds : List D} {vs : List V} {i : Nat} {d : D}, RpL K H ds vs → ds[i]? = some d → ∃ v, vs[i]? = some v ∧ Rp K H d v
  | [], _, i, v, .nil, e => by simp at e
  | d :: ds, _ :: _, 0, v, .cons h r, e => by simp at e; subst e; exact ⟨_, rfl, h⟩
  | d :: ds, _ :: _, i + 1, v, .cons h r, e => by
    obtain ⟨d', h1, h2⟩ := RpL.get' (i := i) r (by simpa using e)
    exact ⟨d', by simpa using h1, h2⟩
theorem RpL.append : ∀ {ds es : List D} {vs us : List V}, RpL K H ds vs → RpL K H es us → RpL K H (ds ++ es) (vs ++ us)
  | [], _, _, _, .nil, s => s
  | _ :: _, _, _, _, .cons h r, s => .cons h (r.append s)
theorem RpL.take : ∀ {ds : List D} {vs : List V} (n : Nat), RpL K H ds vs → RpL K H (ds.take n) (vs.take n)
  | _, _, 0, _ => .nil
  | _, _, _ + 1, .nil => .nil
  | _, _, n + 1, .cons h r => .cons h (r.take n)
theorem RpL.drop : ∀ {ds : List D} {vs : List V} (n : Nat), RpL K H ds vs → RpL K H (ds.drop n) (vs.drop n)
  | _, _, 0, r => r
  | _, _, _ + 1, .nil => .nil
  | _, _, n + 1, .cons _ r => r.drop n
theorem RpL.one {d : D} {v : V} (h : Rp K H d v) : RpL K H [d] [v] := .cons h .nil
theorem RpL.set : ∀ {ds : List D} {vs : List V} {d : D} {v : V} (n : Nat), RpL K H ds vs → Rp K H d v → RpL K H (ds.set n d) (vs.set n v)
  | _, _, _, _, _, .nil, _ => .nil
  | _, _, _, _, 0, .cons _ r, h => .cons h r
  | _, _, _, _, n + 1, .cons q r, h => .cons q (r.set n h)
theorem RpL.erase : ∀ {ds : List D} {vs : List V} (n : Nat), RpL K H ds vs → RpL K H (ds.eraseIdx n) (vs.eraseIdx n)
  | _, _, _, .nil => .nil
  | _, _, 0, .cons _ r => r
  | _, _, n + 1, .cons q r => .cons q (r.erase n)
theorem RpL.revAux : ∀ {ds : List D} {vs : List V} {es : List D} {us : List V}, RpL K H ds vs → RpL K H es us → RpL K H (List.reverseAux ds es) (List.reverseAux vs us)
  | [], _, _, _, .nil, s => s
  | d :: ds, v :: vs, es, us, .cons q r, s => RpL.revAux (ds := ds) (vs := vs) (es := d :: es) (us := v :: us) r (RpL.cons q s)
theorem RpL.reverse {ds : List D} {vs : List V} (h : RpL K H ds vs) : RpL K H ds.reverse vs.reverse := RpL.revAux h .nil
end

/-! ### what a piece of code does to the heap: Hf what stays for ever, H all; B: whose things may change -/
structure Step (B : Addr → Prop) (Hf H Hf2 H2 : Hp) : Prop where
  f : Ex Hf Hf2
  i : Ex Hf2 H2
  n : ∀ a, Hf a = none → H a ≠ none → Hf2 a = none
  k : ∀ a o, ¬ B a → H a = some o → H2 a = some o
  l : ∀ a, H a ≠ none → H2 a ≠ none
section
variable {B : Addr → Prop} {Hf H Hf1 H1 Hf2 H2 : Hp}
theorem Step.refl (h : Ex Hf H) : Step B Hf H Hf H := ⟨Ex.refl _, h, fun _ e _ => e, fun _ _ _ e => e, fun _ e => e⟩
theorem Step.trans (a : Step B Hf H Hf1 H1) (b : Step B Hf1 H1 Hf2 H2) : Step B Hf H Hf2 H2 :=
  ⟨a.f.trans b.f, b.i, fun x e n => b.n x (a.n x e n) (a.l x n), fun x o nb e => b.k x o nb (a.k x o nb e), fun x n => b.l x (a.l x n)⟩
theorem Step.new {p : Addr} {o : HO} (h : Ex Hf H) (hp : H p = none) : Step B Hf H (upd Hf p o) (upd H p o) := by
  have hf : Hf p = none := Evl.fresh_back h hp
  refine ⟨Ex.new hf, fun a u e => ?_, fun a e n => ?_, fun a u _ e => Ex.new hp a u e, fun a n => ?_⟩
  · unfold upd at e ⊢
    by_cases q : a = p
    · rw [if_pos q] at e ⊢; exact e
    · rw [if_neg q] at e ⊢; exact h a u e
  · unfold upd
    by_cases q : a = p
    · subst q; exact absurd hp n
    · rw [if_neg q]; exact e
  · unfold upd
    by_cases q : a = p
    · rw [if_pos q]; simp
    · rw [if_neg q]; exact n
end

/-! ### the box of drawn numbers: a list of a list of ints, and two ints -/
abbrev Bx := Option (Addr × Addr)
def isB (bx : Bx) (a : Addr) : Prop := match bx with
  | none => False
  | some (b, c) => a = b ∨ a = c
def BoxOk (bx : Bx) (Hf H : Hp) : Prop := match bx with
  | none => True
  | some (b, c) => b ≠ c ∧ Hf b = none ∧ Hf c = none ∧ ∃ (ns : List Int) (i j : Int), H b = some (.lst [.ref c, .int i, .int j]) ∧ H c = some (.lst (ns.map V.int)) ∧ 0 ≤ i ∧ 0 ≤ j ∧ ns.length ≤ 63
theorem BoxOk.new {bx : Bx} {Hf H : Hp} {p : Addr} {o : HO} (h : BoxOk bx Hf H) (hp : H p = none) : BoxOk bx (upd Hf p o) (upd H p o) := by
  cases bx with
  | none => trivial
  | some q =>
    obtain ⟨b, c⟩ := q
    obtain ⟨h1, h2, h3, ns, i, j, h4, h5, h6⟩ := h
    have nb : b ≠ p := ne_of_none h4 hp
    have nc : c ≠ p := ne_of_none h5 hp
    exact ⟨h1, by rw [upd_ne nb]; exact h2, by rw [upd_ne nc]; exact h3, ns, i, j, by rw [upd_ne nb]; exact h4, by rw [upd_ne nc]; exact h5, h6⟩
/-- H alone changed elsewhere -/
theorem BoxOk.upd {bx : Bx} {Hf H : Hp} {p : Addr} {o : HO} (h : BoxOk bx Hf H) (hp : ¬ isB bx p) : BoxOk bx Hf (upd H p o) := by
  cases bx with
  | none => trivial
  | some q =>
    obtain ⟨b, c⟩ := q
    obtain ⟨h1, h2, h3, ns, i, j, h4, h5, h6⟩ := h
    have nb : b ≠ p := fun e => hp (.inl e.symm)
    have nc : c ≠ p := fun e => hp (.inr e.symm)
    exact ⟨h1, h2, h3, ns, i, j, by rw [upd_ne nb]; exact h4, by rw [upd_ne nc]; exact h5, h6⟩

/-! ### slots -/
inductive Sl where
  | un | sh (d : D) | ow (ds : List D) | od (ks : List Key) (ds : List D) | bx
abbrev En := List Sl
def SlOk (K : PySem.W.Frag) (bx : Bx) (H0 Hf H : Hp) (s : Sl) (o : Option (Option V)) : Prop := match s with
  | .un => True
  | .sh d => ∃ v, o = some (some v) ∧ Rp K Hf d v
  | .ow ds => ∃ p vs, o = some (some (.ref p)) ∧ H0 p = none ∧ Hf p = none ∧ H p = some (.lst vs) ∧ RpL K Hf ds vs
  | .od ks ds => ∃ p kvs, o = some (some (.ref p)) ∧ H0 p = none ∧ Hf p = none ∧ H p = some (.dK kvs) ∧ kvs.map (·.1) = ks ∧ RpL K Hf ds (kvs.map (·.2))
  | .bx => ∃ b c, bx = some (b, c) ∧ o = some (some (.ref b))
def isOw : Sl → Prop
  | .ow _ => True
  | .od _ _ => True
  | _ => False
structure EnvOk (K : PySem.W.Frag) (bx : Bx) (Hf0 H0 : Hp) (E : En) (σ : L2.St) (Hf H : Hp) : Prop where
  st : Step (isB bx) Hf0 H0 Hf H
  box : BoxOk bx Hf H
  b0 : ∀ a, isB bx a → H0 a ≠ none
  len : σ.length = E.length
  sl : ∀ (i : Nat) (s : Sl), E[i]? = some s → SlOk K bx H0 Hf H s σ[i]?
  dj : ∀ (i j : Nat) (s t : Sl) (p : Addr), i ≠ j → E[i]? = some s → E[j]? = some t → isOw s → isOw t → σ[i]? = some (some (.ref p)) → σ[j]? = some (some (.ref p)) → False
section
variable {K : PySem.W.Frag} {bx : Bx} {Hf0 H0 Hf H Hf2 H2 : Hp} {E : En} {σ : L2.St}
theorem SlOk.step {s : Sl} {o : Option (Option V)} (h : SlOk K bx H0 Hf H s o) (st : Step (isB bx) Hf H Hf2 H2) (b0 : ∀ a, isB bx a → H0 a ≠ none) : SlOk K bx H0 Hf2 H2 s o := by
  cases s with
  | un => trivial
  | sh d => obtain ⟨v, e, r⟩ := h; exact ⟨v, e, r.mono st.f⟩
  | ow ds =>
    obtain ⟨p, vs, e, h1, h2, h3, r⟩ := h
    exact ⟨p, vs, e, h1, st.n p h2 (by rw [h3]; simp), st.k p _ (fun z => b0 p z h1) h3, r.mono st.f⟩
  | od ks ds =>
    obtain ⟨p, vs, e, h1, h2, h3, z, r⟩ := h
    exact ⟨p, vs, e, h1, st.n p h2 (by rw [h3]; simp), st.k p _ (fun z => b0 p z h1) h3, z, r.mono st.f⟩
  | bx => exact h
theorem EnvOk.step (h : EnvOk K bx Hf0 H0 E σ Hf H) (st : Step (isB bx) Hf H Hf2 H2) (b : BoxOk bx Hf2 H2) : EnvOk K bx Hf0 H0 E σ Hf2 H2 :=
  ⟨h.st.trans st, b, h.b0, h.len, fun i s e => (h.sl i s e).step st h.b0, h.dj⟩
theorem EnvOk.new {p : Addr} {o : HO} (h : EnvOk K bx Hf0 H0 E σ Hf H) (hp : H p = none) : EnvOk K bx Hf0 H0 E σ (upd Hf p o) (upd H p o) :=
  h.step (.new h.st.i hp) (h.box.new hp)
theorem EnvOk.at (h : EnvOk K bx Hf0 H0 E σ Hf H) {i : Nat} {s : Sl} (e : E[i]? = some s) : SlOk K bx H0 Hf H s σ[i]? := h.sl i s e
end
end Fm
set_option Elab.async false
set_option linter.all false
set_option maxRecDepth 100000
set_option maxHeartbeats 2000000
set_option autoImplicit false
namespace Fm
open PySem PySem.Spec PyProof.Rows L2
open Evl (Ex ex_l ex_t ex_rd)
open WPM

/-! ### values that stand for data; a list of one's own that is looked at -/
def Rq (K : PySem.W.Frag) (bx : Bx) (Hf H : Hp) (d : D) (v : V) : Prop :=
  Rp K Hf d v ∨ (∃ ds p vs, d = .lst ds ∧ v = .ref p ∧ ¬ isB bx p ∧ H p = some (.lst vs) ∧ RpL K Hf ds vs) ∨
    ∃ ks ds p kvs, d = .dct ks ds ∧ v = .ref p ∧ ¬ isB bx p ∧ H p = some (.dK kvs) ∧ kvs.map (·.1) = ks ∧ RpL K Hf ds (kvs.map (·.2))
inductive RqL (K : PySem.W.Frag) (bx : Bx) (Hf H : Hp) : List D → List V → Prop where
  | nil : RqL K bx Hf H [] []
  | cons {d : D} {ds : List D} {v : V} {vs : List V} : Rq K bx Hf H d v → RqL K bx Hf H ds vs → RqL K bx Hf H (d :: ds) (v :: vs)
def ArgOk (K : PySem.W.Frag) (bx : Bx) (Hf : Hp) (s : Sl) (v : V) : Prop := match s with
  | .sh d => Rp K Hf d v
  | .bx => ∃ b c, bx = some (b, c) ∧ v = .ref b
  | _ => False
inductive ArgL (K : PySem.W.Frag) (bx : Bx) (Hf : Hp) : List Sl → List V → Prop where
  | nil : ArgL K bx Hf [] []
  | cons {s : Sl} {ss : List Sl} {v : V} {vs : List V} : ArgOk K bx Hf s v → ArgL K bx Hf ss vs → ArgL K bx Hf (s :: ss) (v :: vs)
section
variable {K : PySem.W.Frag} {bx : Bx} {Hf H Hf2 H2 : Hp} {d : D} {v : V}
theorem Rq.of (h : Rp K Hf d v) : Rq K bx Hf H d v := .inl h
theorem Rq.step (h : Rq K bx Hf H d v) (s : Step (isB bx) Hf H Hf2 H2) : Rq K bx Hf2 H2 d v := by
  rcases h with h | ⟨ds, p, vs, e1, e2, nb, e, r⟩ | ⟨ks, ds, p, kvs, e1, e2, nb, e, z, r⟩
  · exact .inl (h.mono s.f)
  · exact .inr (.inl ⟨ds, p, vs, e1, e2, nb, s.k _ _ nb e, r.mono s.f⟩)
  · exact .inr (.inr ⟨ks, ds, p, kvs, e1, e2, nb, s.k _ _ nb e, z, r.mono s.f⟩)
theorem RqL.step {ds : List D} {vs : List V} (h : RqL K bx Hf H ds vs) (s : Step (isB bx) Hf H Hf2 H2) : RqL K bx Hf2 H2 ds vs := by
  induction h with
  | nil => exact .nil
  | cons q r ih => exact .cons (q.step s) ih
theorem ArgOk.step {s : Sl} (h : ArgOk K bx Hf s v) (e : Ex Hf Hf2) : ArgOk K bx Hf2 s v := by
  cases s with
  | sh d => exact Rp.mono e _ _ h
  | bx => exact h
  | _ => exact h.elim
theorem ArgL.step {ss : List Sl} {vs : List V} (h : ArgL K bx Hf ss vs) (e : Ex Hf Hf2) : ArgL K bx Hf2 ss vs := by
  induction h with
  | nil => exact .nil
  | cons q r ih => exact .cons (q.step e) ih
theorem ArgL.length {ss : List Sl} {vs : List V} (h : ArgL K bx Hf ss vs) : ss.length = vs.length := by
  induction h with
  | nil => rfl
  | cons q r ih => simp [ih]
/-- what is read off such a value -/
theorem Rq.lst {ds : List D} (hi : Ex Hf H) (h : Rq K bx Hf H (.lst ds) v) : ∃ p vs, v = .ref p ∧ H p = some (.lst vs) ∧ RpL K Hf ds vs := by
  rcases h with h | ⟨ds', p, vs, e1, e2, nb, e, r⟩ | ⟨ks, ds', p, kvs, e1, _⟩
  · cases h with
    | lst h r => exact ⟨_, _, rfl, hi _ _ h, r⟩
  · cases e1; exact ⟨p, vs, e2, e, r⟩
  · cases e1
theorem Rq.tup {ds : List D} (h : Rq K bx Hf H (.tup ds) v) : ∃ p vs, v = .ref p ∧ SqT K Hf p vs ∧ RpL K Hf ds vs := by
  rcases h with h | ⟨ds', p, vs, e1, _⟩ | ⟨ks, ds', p, kvs, e1, _⟩
  · cases h with
    | tup h r => exact ⟨_, _, rfl, h, r⟩
  · cases e1
  · cases e1
theorem Rq.dct {ks : List Key} {ds : List D} (hi : Ex Hf H) (h : Rq K bx Hf H (.dct ks ds) v) : ∃ p kvs, v = .ref p ∧ H p = some (.dK kvs) ∧ kvs.map (·.1) = ks ∧ RpL K Hf ds (kvs.map (·.2)) := by
  rcases h with h | ⟨ds', p, vs, e1, _⟩ | ⟨ks', ds', p, kvs, e1, e2, nb, e, z, r⟩
  · cases h with
    | dct h z r => exact ⟨_, _, rfl, hi _ _ h, z, r⟩
  · cases e1
  · cases e1; exact ⟨p, kvs, e2, e, z, r⟩
theorem Rq.int {i : Int} (h : Rq K bx Hf H (.int i) v) : v = .int i := by
  rcases h with h | ⟨_, _, _, e1, _⟩ | ⟨_, _, _, _, e1, _⟩
  · cases h; rfl
  · cases e1
  · cases e1
theorem Rq.str {i : Str} (h : Rq K bx Hf H (.str i) v) : v = .str i := by
  rcases h with h | ⟨_, _, _, e1, _⟩ | ⟨_, _, _, _, e1, _⟩
  · cases h; rfl
  · cases e1
  · cases e1
theorem Rq.bl {i : Bool} (h : Rq K bx Hf H (.bl i) v) : v = .bl i := by
  rcases h with h | ⟨_, _, _, e1, _⟩ | ⟨_, _, _, _, e1, _⟩
  · cases h; rfl
  · cases e1
  · cases e1
theorem Rq.non (h : Rq K bx Hf H .non v) : v = .non := by
  rcases h with h | ⟨_, _, _, e1, _⟩ | ⟨_, _, _, _, e1, _⟩
  · cases h; rfl
  · cases e1
  · cases e1
theorem Rq.fn {a : Addr} (h : Rq K bx Hf H (.fn a) v) : v = .ref a := by
  rcases h with h | ⟨_, _, _, e1, _⟩ | ⟨_, _, _, _, e1, _⟩
  · cases h; rfl
  · cases e1
  · cases e1

end
mutual
def D.py : D → Option PyData
  | .non => some .none
  | .bl b => some (.bool b)
  | .int i => some (.int i)
  | .str s => some (.str s)
  | .lst ds => match D.pyL ds with
    | some l => some (.list l)
    | none => none
  | .tup ds => match D.pyL ds with
    | some l => some (.tuple l)
    | none => none
  | .dct _ _ => none
  | .fn _ => none
def D.pyL : List D → Option (List PyData)
  | [] => some []
  | d :: ds => match D.py d, D.pyL ds with
    | some p, some l => some (p :: l)
    | _, _ => none
end
section
variable {K : PySem.W.Frag} {bx : Bx} {Hf H : Hp}
mutual
theorem Rp.dp : ∀ (d : D) (v : V) (p : PyData), Rp K H d v → d.py = some p → Dp K H v p
  | .non, _, p, .non, e => by cases e; exact .non
  | .bl b, _, p, .bl _, e => by cases e; exact .bl b
  | .int b, _, p, .int _, e => by cases e; exact .int b
  | .str b, _, p, .str _, e => by cases e; exact .str b
  | .lst ds, _, p, .lst h r, e => by
    rw [D.py] at e
    cases q : D.pyL ds with
    | none => rw [q] at e; cases e
    | some l => rw [q] at e; cases e; exact .lst (.of h) (RpL.dp ds _ l r q)
  | .tup ds, _, p, .tup h r, e => by
    rw [D.py] at e
    cases q : D.pyL ds with
    | none => rw [q] at e; cases e
    | some l => rw [q] at e; cases e; exact .tup h (RpL.dp ds _ l r q)
  | .dct _ _, _, p, .dct _ _ _, e => by rw [D.py] at e; cases e
  | .fn _, _, p, .fn _, e => by rw [D.py] at e; cases e
theorem RpL.dp : ∀ (ds : List D) (vs : List V) (l : List PyData), RpL K H ds vs → D.pyL ds = some l → DpAll K H vs l
  | [], _, l, .nil, e => by rw [D.pyL] at e; cases e; exact .nil
  | d :: ds, _, l, .cons h r, e => by
    rw [D.pyL] at e
    cases q : D.py d with
    | none => rw [q] at e; cases e
    | some p =>
      cases q2 : D.pyL ds with
      | none => rw [q, q2] at e; cases e
      | some l2 =>
        rw [q, q2] at e; cases e
        exact .cons (Rp.dp d _ p h q) (RpL.dp ds _ l2 r q2)
end
theorem Rq.dp {d : D} {v : V} {p : PyData} (hi : Ex Hf H) (h : Rq K bx Hf H d v) (e : d.py = some p) : Dp K H v p := by
  rcases h with h | ⟨ds, q, vs, e1, e2, nb, eq, r⟩ | ⟨ks, ds, q, kvs, e1, _⟩
  · exact Rp.dp d v p (h.mono hi) e
  · subst e1 e2
    rw [D.py] at e
    cases z : D.pyL ds with
    | none => rw [z] at e; cases e
    | some l => rw [z] at e; cases e; exact .lst (.of eq) (RpL.dp ds _ l (r.mono hi) z)
  · subst e1; rw [D.py] at e; cases e
end

/-! ### judgements -/
section
variable {M : Type → Type} [WPM M]
def EvM (K : PySem.W.Frag) (bx : Bx) (te : TE) (me : En → M D) : Prop := ∀ {Hf0 H0 : Hp} {E : En} {σ : L2.St} {Hf H : Hp}, EnvOk K bx Hf0 H0 E σ Hf H → ∀ {P : D → Prop}, wp (me E) P →
  ∀ Q : VK, (∀ d v Hf2 H2, P d → Step (isB bx) Hf H Hf2 H2 → BoxOk bx Hf2 H2 → Rp K Hf2 d v → Q v H2) → te σ H Q
def BvM (K : PySem.W.Frag) (bx : Bx) (te : TE) (me : En → M D) : Prop := ∀ {Hf0 H0 : Hp} {E : En} {σ : L2.St} {Hf H : Hp}, EnvOk K bx Hf0 H0 E σ Hf H → ∀ {P : D → Prop}, wp (me E) P →
  ∀ Q : VK, (∀ d v Hf2 H2, P d → Step (isB bx) Hf H Hf2 H2 → BoxOk bx Hf2 H2 → Rq K bx Hf2 H2 d v → Q v H2) → te σ H Q
def TvM (K : PySem.W.Frag) (bx : Bx) (tt : TT) (me : En → M Bool) : Prop := ∀ {Hf0 H0 : Hp} {E : En} {σ : L2.St} {Hf H : Hp}, EnvOk K bx Hf0 H0 E σ Hf H → ∀ {P : Bool → Prop}, wp (me E) P →
  ∀ Q : Bool → Hp → Prop, (∀ b Hf2 H2, P b → Step (isB bx) Hf H Hf2 H2 → BoxOk bx Hf2 H2 → Q b H2) → tt σ H Q
def AvM (K : PySem.W.Frag) (bx : Bx) (ta : TA) (me : En → M (List D)) : Prop := ∀ {Hf0 H0 : Hp} {E : En} {σ : L2.St} {Hf H : Hp}, EnvOk K bx Hf0 H0 E σ Hf H → ∀ {P : List D → Prop}, wp (me E) P →
  ∀ Q : List V → Hp → Prop, (∀ ds vs Hf2 H2, P ds → Step (isB bx) Hf H Hf2 H2 → BoxOk bx Hf2 H2 → RqL K bx Hf2 H2 ds vs → Q vs H2) → ta σ H Q
def CvM (K : PySem.W.Frag) (bx : Bx) (ta : TA) (me : En → M (List Sl)) : Prop := ∀ {Hf0 H0 : Hp} {E : En} {σ : L2.St} {Hf H : Hp}, EnvOk K bx Hf0 H0 E σ Hf H → ∀ {P : List Sl → Prop}, wp (me E) P →
  ∀ Q : List V → Hp → Prop, (∀ ss vs Hf2 H2, P ss → Step (isB bx) Hf H Hf2 H2 → BoxOk bx Hf2 H2 → ArgL K bx Hf2 ss vs → Q vs H2) → ta σ H Q
structure PM (X : Cx) (bx : Bx) (e : Expr) (me : En → M D) : Prop where
  ex : ∃ te, PE X e te ∧ EvM X.K bx te me
structure BM (X : Cx) (bx : Bx) (e : Expr) (me : En → M D) : Prop where
  ex : ∃ te, PE X e te ∧ BvM X.K bx te me
structure TM (X : Cx) (bx : Bx) (e : Expr) (me : En → M Bool) : Prop where
  ex : ∃ te, PT X e te ∧ TvM X.K bx te me
structure WM (X : Cx) (bx : Bx) (e : Expr) (me : En → M Bool) : Prop where
  ex : ∃ te, PW X e te ∧ TvM X.K bx te me
structure AM (X : Cx) (bx : Bx) (es : List Expr) (me : En → M (List D)) : Prop where
  ex : ∃ te, PA X es te ∧ AvM X.K bx te me
structure CM (X : Cx) (bx : Bx) (es : List Expr) (me : En → M (List Sl)) : Prop where
  ex : ∃ te, PA X es te ∧ CvM X.K bx te me
variable {X : Cx} {bx : Bx} {e a b c : Expr} {es : List Expr} {ma mb mc me : En → M D} {pos : Pos}
theorem EvM.toB {K : PySem.W.Frag} {te : TE} (h : EvM K bx te me) : BvM K bx te me := fun {_ _ _ _ _ _} I {P} w Q q => h I w Q fun d v Hf2 H2 p s o r => q d v Hf2 H2 p s o (.of r)
theorem PM.toB (h : PM X bx e me) : BM X bx e me := let ⟨te, h1, h2⟩ := h.ex; ⟨te, h1, h2.toB⟩
theorem WM.toT {mt : En → M Bool} (h : WM X bx e mt) : TM X bx e mt := let ⟨te, h1, h2⟩ := h.ex; ⟨te, h1.pt, h2⟩

/-! ### names and constants -/
def mC (d : D) : En → M D := fun _ => pure d
def mVar (i : Nat) : En → M D := fun E => match E[i]? with
  | some (.sh d) => pure d
  | _ => fail
def mVarB (i : Nat) : En → M D := fun E => match E[i]? with
  | some (.sh d) => pure d
  | some (.ow ds) => pure (.lst ds)
  | some (.od ks ds) => pure (.dct ks ds)
  | _ => fail
theorem pm_c {v : V} {d : D} (h : PE X e (tC v)) (hd : ∀ H, Rp X.K H d v) : PM X bx e (mC d : En → M D) :=
  ⟨_, h, fun {Hf0 H0 E σ Hf H} I {P} w Q q => q d v Hf H (wp_pure w) (.refl I.st.i) I.box (hd Hf)⟩
theorem pm_int {i : Int} {j : Nat} : PM X bx (.Constant (.int i) j pos) (mC (.int i) : En → M D) := pm_c pe_int fun _ => .int i
theorem pm_bl {i : Bool} {j : Nat} : PM X bx (.Constant (.bool i) j pos) (mC (.bl i) : En → M D) := pm_c pe_bl fun _ => .bl i
theorem pm_non {j : Nat} : PM X bx (.Constant .none j pos) (mC .non : En → M D) := pm_c pe_non fun _ => .non
theorem pm_str {i : Str} {j : Nat} : PM X bx (.Constant (.str i) j pos) (mC (.str i) : En → M D) := pm_c pe_str fun _ => .str i
theorem pm_glob {x : Str} {v : V} {u : Value} {d : D} (hg : Gl X x) (hm : X.mg x = some u) (r : RelV v u) (hr : ∀ H, Rp X.K H d v) (hd : (x == ("__debug__" : Str)) = false := by decide) : PM X bx (.Name x pos) (mC d : En → M D) :=
  pm_c (pe_glob hg hm r hd) hr
theorem pm_var (i : Nat) {x : Str} (h : PE X (.Name x pos) (tVar i)) : PM X bx (.Name x pos) (mVar i : En → M D) := by
  refine ⟨_, h, fun {Hf0 H0 E σ Hf H} I {P} w Q q => ?_⟩
  unfold mVar at w
  cases e : E[i]? with
  | none => rw [e] at w; exact absurd w wp_fail
  | some s =>
    rw [e] at w
    cases s with
    | sh d =>
      obtain ⟨v, e2, r⟩ := I.at e
      exact ⟨v, e2, q d v Hf H (wp_pure w) (.refl I.st.i) I.box r⟩
    | _ => exact absurd w wp_fail
theorem bm_var (i : Nat) {x : Str} (h : PE X (.Name x pos) (tVar i)) : BM X bx (.Name x pos) (mVarB i : En → M D) := by
  refine ⟨_, h, fun {Hf0 H0 E σ Hf H} I {P} w Q q => ?_⟩
  unfold mVarB at w
  cases e : E[i]? with
  | none => rw [e] at w; exact absurd w wp_fail
  | some s =>
    rw [e] at w
    cases s with
    | sh d =>
      obtain ⟨v, e2, r⟩ := I.at e
      exact ⟨v, e2, q d v Hf H (wp_pure w) (.refl I.st.i) I.box (.of r)⟩
    | ow ds =>
      obtain ⟨p, vs, e2, h1, h2, h3, r⟩ := I.at e
      exact ⟨_, e2, q _ _ Hf H (wp_pure w) (.refl I.st.i) I.box (.inr (.inl ⟨ds, p, vs, rfl, rfl, fun z => I.b0 p z h1, h3, r⟩))⟩
    | od ks ds =>
      obtain ⟨p, vs, e2, h1, h2, h3, z, r⟩ := I.at e
      exact ⟨_, e2, q _ _ Hf H (wp_pure w) (.refl I.st.i) I.box (.inr (.inr ⟨ks, ds, p, vs, rfl, rfl, fun z => I.b0 p z h1, h3, z, r⟩))⟩
    | _ => exact absurd w wp_fail

/-! ### two operands, one operand -/
def mOp (f : D → D → Option D) (ma mb : En → M D) : En → M D := fun E => ma E >>= fun x => mb E >>= fun y => lift (f x y)
def mUn (f : D → Option D) (ma : En → M D) : En → M D := fun E => ma E >>= fun x => lift (f x)
/-- a rule by values does what f says -/
def RvM (K : PySem.W.Frag) (bx : Bx) (r : R2) (f : D → D → Option D) : Prop := ∀ {Hf H : Hp} {x y d : D} {vx vy : V}, Ex Hf H → BoxOk bx Hf H → Rq K bx Hf H x vx → Rq K bx Hf H y vy → f x y = some d →
  ∀ Q : VK, (∀ v Hf2 H2, Step (isB bx) Hf H Hf2 H2 → BoxOk bx Hf2 H2 → Rp K Hf2 d v → Q v H2) → r vx vy H Q
def RuM (K : PySem.W.Frag) (bx : Bx) (r : V → Hp → VK → Prop) (f : D → Option D) : Prop := ∀ {Hf H : Hp} {x d : D} {vx : V}, Ex Hf H → BoxOk bx Hf H → Rq K bx Hf H x vx → f x = some d →
  ∀ Q : VK, (∀ v Hf2 H2, Step (isB bx) Hf H Hf2 H2 → BoxOk bx Hf2 H2 → Rp K Hf2 d v → Q v H2) → r vx H Q
theorem ev_op {K : PySem.W.Frag} {r : R2} {f : D → D → Option D} {ta tb : TE} (hr : RvM K bx r f) (ha : BvM K bx ta ma) (hb : BvM K bx tb mb) : EvM K bx (tOp r ta tb) (mOp f ma mb) := fun {Hf0 H0 E σ Hf H} I {P} w Q q => by
  refine ha I (wp_bind w) _ fun x vx Hf1 H1 w1 s1 b1 r1 => ?_
  refine hb (I.step s1 b1) (wp_bind w1) _ fun y vy Hf2 H2 w2 s2 b2 r2 => ?_
  obtain ⟨d, e, p⟩ := wp_lift w2
  exact hr s2.i b2 (r1.step s2) r2 e Q fun v Hf3 H3 s3 b3 r3 => q d v Hf3 H3 p ((s1.trans s2).trans s3) b3 r3
theorem ev_un {K : PySem.W.Frag} {r : V → Hp → VK → Prop} {f : D → Option D} {ta : TE} (hr : RuM K bx r f) (ha : BvM K bx ta ma) : EvM K bx (fun σ H Q => ta σ H fun x H1 => r x H1 Q) (mUn f ma) := fun {Hf0 H0 E σ Hf H} I {P} w Q q => by
  refine ha I (wp_bind w) _ fun x vx Hf1 H1 w1 s1 b1 r1 => ?_
  obtain ⟨d, e, p⟩ := wp_lift w1
  exact hr s1.i b1 r1 e Q fun v Hf3 H3 s3 b3 r3 => q d v Hf3 H3 p (s1.trans s3) b3 r3
theorem pm_op {op : Operator} {r : R2} {f : D → D → Option D} (ho : OpR X (binaryOp op) r) (hr : RvM X.K bx r f) (ha : BM X bx a ma) (hb : BM X bx b mb) : PM X bx (.BinOp a op b pos) (mOp f ma mb) :=
  let ⟨_, h1, h2⟩ := ha.ex; let ⟨_, h3, h4⟩ := hb.ex; ⟨_, pe_op ho h1 h3, ev_op hr h2 h4⟩
theorem pm_cmp {op : CmpOp} {r : R2} {f : D → D → Option D} (ho : OpR X (compareOp op) r) (hr : RvM X.K bx r f) (ha : BM X bx a ma) (hb : BM X bx b mb) (hm : behindInMarks op b = false) : PM X bx (.Compare a [op] [b] pos) (mOp f ma mb) :=
  let ⟨_, h1, h2⟩ := ha.ex; let ⟨_, h3, h4⟩ := hb.ex; ⟨_, pe_cmpR ho h1 h3 hm, ev_op hr h2 h4⟩
theorem pm_unop {op : UnaryOp} {r : V → Hp → VK → Prop} {f : D → Option D} (ho : UnR X (unaryOp op) r) (hr : RuM X.K bx r f) (ha : BM X bx a ma) : PM X bx (.UnaryOp op a pos) (mUn f ma) :=
  let ⟨_, h1, h2⟩ := ha.ex; ⟨_, pe_un ho h1, ev_un hr h2⟩
theorem pm_ix {r : R2} {f : D → D → Option D} (ho : IxR X r) (hr : RvM X.K bx r f) (ha : BM X bx a ma) (hb : BM X bx b mb) (hs : PlainIx b) : PM X bx (.Subscript a b pos) (mOp f ma mb) :=
  let ⟨_, h1, h2⟩ := ha.ex; let ⟨_, h3, h4⟩ := hb.ex; ⟨_, pe_ix ho h1 h3 hs, ev_op hr h2 h4⟩
end
end Fm
set_option Elab.async false
set_option linter.all false
set_option maxRecDepth 100000
set_option maxHeartbeats 2000000
set_option autoImplicit false
namespace Fm
open PySem PySem.Spec PyProof.Rows L2
open Evl (Ex ex_l ex_t ex_rd)
open WPM

section
variable {K : PySem.W.Frag} {bx : Bx}
/-- a plain answer, nothing new -/
theorem rv_now {Hf H : Hp} {d : D} {v : V} {Q : VK} (hi : Ex Hf H) (b : BoxOk bx Hf H) (r : Rp K Hf d v) (q : ∀ v Hf2 H2, Step (isB bx) Hf H Hf2 H2 → BoxOk bx Hf2 H2 → Rp K Hf2 d v → Q v H2) : Q v H :=
  q v Hf H (.refl hi) b r
theorem rv_tup {Hf H : Hp} {ds : List D} {vs : List V} {Q : VK} {p : Addr} (hi : Ex Hf H) (b : BoxOk bx Hf H) (r : RpL K Hf ds vs) (hp : H p = none) (q : ∀ v Hf2 H2, Step (isB bx) Hf H Hf2 H2 → BoxOk bx Hf2 H2 → Rp K Hf2 (.tup ds) v → Q v H2) : Q (.ref p) (upd H p (.tup vs)) :=
  q _ _ _ (.new hi hp) (b.new hp) (.tup (.of upd_same) (r.mono (Ex.new (Evl.fresh_back hi hp))))
theorem rv_lst {Hf H : Hp} {ds : List D} {vs : List V} {Q : VK} {p : Addr} (hi : Ex Hf H) (b : BoxOk bx Hf H) (r : RpL K Hf ds vs) (hp : H p = none) (q : ∀ v Hf2 H2, Step (isB bx) Hf H Hf2 H2 → BoxOk bx Hf2 H2 → Rp K Hf2 (.lst ds) v → Q v H2) : Q (.ref p) (upd H p (.lst vs)) :=
  q _ _ _ (.new hi hp) (b.new hp) (.lst upd_same (r.mono (Ex.new (Evl.fresh_back hi hp))))

/-! ### operators -/
def ifD (c : Prop) [Decidable c] (d : D) : Option D := if c then some d else none
theorem ifD_some {c : Prop} [Decidable c] {d d' : D} (e : ifD c d = some d') : c ∧ d = d' := by
  unfold ifD at e
  split at e
  · exact ⟨by assumption, Option.some.inj e⟩
  · cases e
def pAdd : D → D → Option D
  | .int i, .int j => some (.int (i + j))
  | .str x, .str y => ifD (x.length + y.length ≤ sizeLine) (.str (x ++ y))
  | .lst x, .lst y => ifD (x.length + y.length ≤ sizeLine) (.lst (x ++ y))
  | .tup x, .tup y => ifD (x.length + y.length ≤ sizeLine) (.tup (x ++ y))
  | _, _ => none
def rAddU (K : PySem.W.Frag) : R2 := fun x y H Q => (rI0 fun i j => .int (i + j)) x y H Q ∨ (∃ i j, x = .str i ∧ y = .str j ∧ i.length + j.length ≤ sizeLine ∧ Q (.str (i ++ j)) H) ∨ rCat x y H Q ∨ rCatA K x y H Q
theorem op_addU {X : Cx} : OpR X (binaryOp .Add) (rAddU X.K) := op_add.or (op_add_str.or (op_cat.or op_catA))
theorem rv_add : RvM K bx (rAddU K) pAdd := by
  intro Hf H x y d vx vy hi b rx ry e Q q
  cases x with
  | int i =>
    cases y with
    | int j =>
      cases e
      obtain rfl := rx.int
      obtain rfl := ry.int
      exact .inl ⟨i, j, rfl, rfl, rv_now hi b (.int _) q⟩
    | _ => cases e
  | str i =>
    cases y with
    | str j =>
      obtain ⟨hz, rfl⟩ := ifD_some e
      obtain rfl := rx.str
      obtain rfl := ry.str
      exact .inr (.inl ⟨i, j, rfl, rfl, hz, rv_now hi b (.str _) q⟩)
    | _ => cases e
  | lst xs =>
    cases y with
    | lst ys =>
      obtain ⟨hz, rfl⟩ := ifD_some e
      · obtain ⟨p, vs, rfl, h1, r1⟩ := rx.lst hi
        obtain ⟨p2, us, rfl, h2, r2⟩ := ry.lst hi
        exact .inr (.inr (.inl ⟨p, p2, vs, us, rfl, rfl, h1, h2, by rw [← r1.length, ← r2.length]; exact hz, fun o ho => rv_lst hi b (r1.append r2) ho q⟩))
    | _ => cases e
  | tup xs =>
    cases y with
    | tup ys =>
      obtain ⟨hz, rfl⟩ := ifD_some e
      · obtain ⟨p, vs, rfl, h1, r1⟩ := rx.tup
        obtain ⟨p2, us, rfl, h2, r2⟩ := ry.tup
        refine .inr (.inr (.inr ⟨p, p2, vs, us, rfl, rfl, ex_t hi h1, ex_t hi h2, by rw [← r1.length, ← r2.length]; exact hz, fun e1 => ?_, fun _ e2 => ?_, fun _ _ o ho => rv_tup hi b (r1.append r2) ho q⟩))
        · subst e1
          cases r1
          exact rv_now hi b (.tup h2 r2) q
        · subst e2
          cases r2
          rw [List.append_nil] at q
          exact rv_now hi b (.tup h1 r1) q
    | _ => cases e
  | _ => cases y <;> cases e

def p2i (f : Int → Int → Option D) : D → D → Option D
  | .int i, .int j => f i j
  | _, _ => none
theorem rv_i0 {g : Int → Int → V} {f : Int → Int → D} (h : ∀ i j Hf, Rp K Hf (f i j) (g i j)) : RvM K bx (rI0 g) (p2i fun i j => some (f i j)) := by
  intro Hf H x y d vx vy hi b rx ry e Q q
  cases x with
  | int i =>
    cases y with
    | int j =>
      cases e
      obtain rfl := rx.int
      obtain rfl := ry.int
      exact ⟨i, j, rfl, rfl, rv_now hi b (h i j Hf) q⟩
    | _ => cases e
  | _ => cases y <;> cases e
theorem rv_iC {C : Int → Int → Prop} [∀ i j, Decidable (C i j)] {g : Int → Int → V} {f : Int → Int → D} (h : ∀ i j Hf, Rp K Hf (f i j) (g i j)) : RvM K bx (rI C g) (p2i fun i j => ifD (C i j) (f i j)) := by
  intro Hf H x y d vx vy hi b rx ry e Q q
  cases x with
  | int i =>
    cases y with
    | int j =>
      obtain ⟨hc, rfl⟩ := ifD_some e
      obtain rfl := rx.int
      obtain rfl := ry.int
      exact ⟨i, j, rfl, rfl, hc, rv_now hi b (h i j Hf) q⟩
    | _ => cases e
  | _ => cases y <;> cases e
def pSub : D → D → Option D := p2i fun i j => some (.int (i - j))
theorem rv_sub : RvM K bx (rI0 fun i j => .int (i - j)) pSub := rv_i0 fun _ _ _ => .int _
instance (i j : Int) : Decidable (CMul i j) := by unfold CMul; infer_instance
instance (i j : Int) : Decidable (CDiv i j) := by unfold CDiv; infer_instance
/-- products, and a tuple some times over -/
def pMul : D → D → Option D
  | .int i, .int j => ifD (CMul i j) (.int (i * j))
  | .tup xs, .int k => ifD (1 ≤ xs.length ∧ 2 ≤ k ∧ k ≤ 1000 ∧ xs.length ≤ 1000) (.tup (List.replicate k.toNat xs).flatten)
  | _, _ => none
def rMulU (K : PySem.W.Frag) : R2 := fun x y H Q => rI CMul (fun i j => .int (i * j)) x y H Q ∨ rRepT K x y H Q
theorem op_mulU {X : Cx} : OpR X (binaryOp .Mult) (rMulU X.K) := op_mul.or op_repT
theorem RpL.rep {Hf : Hp} {ds : List D} {vs : List V} (r : RpL K Hf ds vs) : ∀ n : Nat, RpL K Hf (List.replicate n ds).flatten (List.replicate n vs).flatten
  | 0 => .nil
  | n + 1 => by
    rw [List.replicate_succ, List.replicate_succ, List.flatten_cons, List.flatten_cons]
    exact r.append (RpL.rep r n)
theorem ne_nil_of {α β : Type} {xs : List α} {ys : List β} (e : xs.length = ys.length) (h : xs ≠ []) : ys ≠ [] := by
  intro z
  subst z
  exact h (List.length_eq_zero_iff.mp e)
theorem rv_mul : RvM K bx (rMulU K) pMul := by
  intro Hf H x y d vx vy hi b rx ry e Q q
  cases x with
  | int i =>
    cases y with
    | int j =>
      obtain ⟨hc, rfl⟩ := ifD_some e
      obtain rfl := rx.int
      obtain rfl := ry.int
      exact .inl ⟨i, j, rfl, rfl, hc, rv_now hi b (.int _) q⟩
    | _ => cases e
  | tup xs =>
    cases y with
    | int j =>
      obtain ⟨hc, rfl⟩ := ifD_some e
      · obtain ⟨p, vs, rfl, h1, r1⟩ := rx.tup
        obtain rfl := ry.int
        exact .inr ⟨p, j, vs, rfl, rfl, ex_t hi h1, (fun z => by have h0 := hc.1; have l : xs.length = 0 := (by rw [r1.length, z]; rfl); omega), hc.2.1, hc.2.2.1, by rw [← r1.length]; exact hc.2.2.2, fun o ho => rv_tup hi b (r1.rep _) ho q⟩
    | _ => cases e
  | _ => cases y <;> cases e
def pDiv : D → D → Option D := p2i fun i j => ifD (CDiv i j) (.int (i / j))
theorem rv_div : RvM K bx (rI CDiv fun i j => .int (i / j)) pDiv := rv_iC fun _ _ _ => .int _
def pMod : D → D → Option D := p2i fun i j => ifD (0 < j) (.int (i % j))
theorem rv_mod : RvM K bx (rI (fun _ j => 0 < j) fun i j => .int (i % j)) pMod := rv_iC fun _ _ _ => .int _

/-! ### comparisons -/
def pEqv (neg : Bool) (x y : D) : Option D := match x.py, y.py with
  | some p, some q => ifD (SeqAt.shaped p = true ∧ SeqAt.shaped q = true) (.bl (if neg then !PyData.eqv p q else PyData.eqv p q))
  | _, _ => none
theorem rv_eq : RvM K bx (rEqD K) (pEqv false) := by
  intro Hf H x y d vx vy hi b rx ry e Q q
  unfold pEqv at e
  cases ex : x.py with
  | none => rw [ex] at e; cases e
  | some p =>
    cases ey : y.py with
    | none => rw [ex, ey] at e; cases e
    | some p2 =>
      rw [ex, ey] at e
      obtain ⟨hc, rfl⟩ := ifD_some e
      exact ⟨p, p2, rx.dp hi ex, ry.dp hi ey, hc.1, hc.2, rv_now hi b (.bl _) q⟩
theorem rv_ne : RvM K bx (rNeD K) (pEqv true) := by
  intro Hf H x y d vx vy hi b rx ry e Q q
  unfold pEqv at e
  cases ex : x.py with
  | none => rw [ex] at e; cases e
  | some p =>
    cases ey : y.py with
    | none => rw [ex, ey] at e; cases e
    | some p2 =>
      rw [ex, ey] at e
      obtain ⟨hc, rfl⟩ := ifD_some e
      exact ⟨p, p2, rx.dp hi ex, ry.dp hi ey, hc.1, hc.2, rv_now hi b (.bl _) q⟩
/-- a tuple of ints -/
def D.ints : List D → Option (List Int)
  | [] => some []
  | .int i :: r => match D.ints r with
    | some l => some (i :: l)
    | none => none
  | _ :: _ => none
theorem ints_of {Hf : Hp} : ∀ {ds : List D} {vs : List V} {ns : List Int}, RpL K Hf ds vs → D.ints ds = some ns → vs = ns.map V.int
  | [], _, ns, .nil, e => by cases e; rfl
  | d :: ds, _ :: vs, ns, .cons h r, e => by
    cases d with
    | int i =>
      rw [D.ints] at e
      cases q : D.ints ds with
      | none => rw [q] at e; cases e
      | some l =>
        rw [q] at e; cases e
        cases h
        rw [ints_of r q]; rfl
    | _ => cases e
def ltTup (x y : List D) : Option D := match D.ints x, D.ints y with
  | some ns, some ms => some (.bl (HT.lexLt ns ms))
  | _, _ => none
def pLt : D → D → Option D
  | .int i, .int j => some (.bl (decide (i < j)))
  | .str i, .str j => some (.bl (decide (i.cps.toList < j.cps.toList)))
  | .tup x, .tup y => ltTup x y
  | _, _ => none
def rLtU (K : PySem.W.Frag) : R2 := fun x y H Q => (rI0 fun i j => .bl (decide (i < j))) x y H Q ∨ (∃ i j, x = .str i ∧ y = .str j ∧ Q (.bl (decide (i.cps.toList < j.cps.toList))) H) ∨ rLtT K x y H Q
theorem op_ltU {X : Cx} (hu : X.A.units < cLine) : OpR X (compareOp .Lt) (rLtU X.K) := op_lt.or (op_lt_str.or (op_ltT hu))
theorem rv_lt : RvM K bx (rLtU K) pLt := by
  intro Hf H x y d vx vy hi b rx ry e Q q
  cases x with
  | int i =>
    cases y with
    | int j =>
      cases e
      obtain rfl := rx.int
      obtain rfl := ry.int
      exact .inl ⟨i, j, rfl, rfl, rv_now hi b (.bl _) q⟩
    | _ => cases e
  | str i =>
    cases y with
    | str j =>
      cases e
      obtain rfl := rx.str
      obtain rfl := ry.str
      exact .inr (.inl ⟨i, j, rfl, rfl, rv_now hi b (.bl _) q⟩)
    | _ => cases e
  | tup xs =>
    cases y with
    | tup ys =>
      replace e : ltTup xs ys = some d := e
      unfold ltTup at e
      cases e1 : D.ints xs with
      | none => rw [e1] at e; cases e
      | some ns =>
        cases e2 : D.ints ys with
        | none => rw [e1, e2] at e; cases e
        | some ms =>
          rw [e1, e2] at e; cases e
          obtain ⟨p, vs, rfl, h1, r1⟩ := rx.tup
          obtain ⟨p2, us, rfl, h2, r2⟩ := ry.tup
          have z1 := ints_of r1 e1
          have z2 := ints_of r2 e2
          subst z1 z2
          exact .inr (.inr ⟨p, p2, ns, ms, rfl, rfl, ex_t hi h1, ex_t hi h2, rv_now hi b (.bl _) q⟩)
    | _ => cases e
  | _ => cases y <;> cases e
def pLe : D → D → Option D := p2i fun i j => some (.bl (decide (i ≤ j)))
theorem rv_le : RvM K bx (rI0 fun i j => .bl (decide (i ≤ j))) pLe := rv_i0 fun _ _ _ => .bl _
def pGt : D → D → Option D := p2i fun i j => some (.bl (decide (j < i)))
theorem rv_gt : RvM K bx (rI0 fun i j => .bl (decide (j < i))) pGt := rv_i0 fun _ _ _ => .bl _
def pGe : D → D → Option D := p2i fun i j => some (.bl (decide (j ≤ i)))
theorem rv_ge : RvM K bx (rI0 fun i j => .bl (decide (j ≤ i))) pGe := rv_i0 fun _ _ _ => .bl _
/-- is None, is True .. -/
def D.isN : D → Bool
  | .non => true
  | _ => false
def pIs (neg : Bool) : D → D → Option D
  | .bl a, .bl b => some (.bl (if neg then !decide (a = b) else decide (a = b)))
  | x, .non => some (.bl (if neg then !x.isN else x.isN))
  | _, _ => none
def rIsU : R2 := fun x y H Q => rIsB x y H Q ∨ (y = .non ∧ Q (.bl (decide (x = .non))) H)
def rNotU : R2 := fun x y H Q => rNotB x y H Q ∨ (y = .non ∧ Q (.bl (!decide (x = .non))) H)
theorem op_isU {X : Cx} : OpR X (compareOp .Is) rIsU := op_isBl.or op_isN
theorem op_notU {X : Cx} : OpR X (compareOp .IsNot) rNotU := op_notBl.or op_notN
theorem isN_of {Hf H : Hp} {x : D} {v : V} (r : Rq K bx Hf H x v) : decide (v = .non) = x.isN := by
  rcases r with r | ⟨_, _, _, rfl, rfl, _⟩ | ⟨_, _, _, _, rfl, rfl, _⟩
  · cases r <;> simp [D.isN]
  · simp [D.isN]
  · simp [D.isN]
theorem rv_is : RvM K bx rIsU (pIs false) := by
  intro Hf H x y d vx vy hi b rx ry e Q q
  cases y with
  | non =>
    obtain rfl := ry.non
    refine .inr ⟨rfl, ?_⟩
    rw [isN_of rx]
    have e' : d = .bl x.isN := by cases x <;> (cases e; rfl)
    subst e'
    exact rv_now hi b (.bl _) q
  | bl c =>
    cases x with
    | bl a =>
      cases e
      obtain rfl := rx.bl
      obtain rfl := ry.bl
      exact .inl ⟨a, c, rfl, rfl, rv_now hi b (.bl _) q⟩
    | _ => cases e
  | _ => cases x <;> cases e
theorem rv_isnot : RvM K bx rNotU (pIs true) := by
  intro Hf H x y d vx vy hi b rx ry e Q q
  cases y with
  | non =>
    obtain rfl := ry.non
    refine .inr ⟨rfl, ?_⟩
    rw [isN_of rx]
    have e' : d = .bl (!x.isN) := by cases x <;> (cases e; rfl)
    subst e'
    exact rv_now hi b (.bl _) q
  | bl c =>
    cases x with
    | bl a =>
      cases e
      obtain rfl := rx.bl
      obtain rfl := ry.bl
      exact .inl ⟨a, c, rfl, rfl, rv_now hi b (.bl _) q⟩
    | _ => cases e
  | _ => cases x <;> cases e
end
end Fm
set_option Elab.async false
set_option linter.all false
set_option maxRecDepth 100000
set_option maxHeartbeats 2000000
set_option autoImplicit false
namespace Fm
open PySem PySem.Spec PyProof.Rows L2
open Evl (Ex ex_l ex_t ex_rd)
open WPM
section
variable {K : PySem.W.Frag} {bx : Bx}
/-! ### in -/
def D.flat : D → Option V
  | .non => some .non
  | .bl b => some (.bl b)
  | .int i => some (.int i)
  | .str s => some (.str s)
  | _ => none
def D.flats : List D → Option (List V)
  | [] => some []
  | d :: ds => match d.flat, D.flats ds with
    | some v, some vs => some (v :: vs)
    | _, _ => none
theorem flat_of {Hf H : Hp} {d : D} {v w : V} (r : Rq K bx Hf H d v) (e : d.flat = some w) : v = w ∧ flatV w = true := by
  cases d with
  | non => cases e; exact ⟨r.non, rfl⟩
  | bl b => cases e; exact ⟨r.bl, rfl⟩
  | int b => cases e; exact ⟨r.int, rfl⟩
  | str b => cases e; exact ⟨r.str, rfl⟩
  | _ => cases e
theorem flats_of {Hf : Hp} : ∀ {ds : List D} {vs ws : List V}, RpL K Hf ds vs → D.flats ds = some ws → vs = ws ∧ ws.all flatV = true
  | [], _, ws, .nil, e => by cases e; exact ⟨rfl, rfl⟩
  | d :: ds, _ :: vs, ws, .cons h r, e => by
    rw [D.flats] at e
    cases q : d.flat with
    | none => rw [q] at e; cases e
    | some w =>
      cases q2 : D.flats ds with
      | none => rw [q, q2] at e; cases e
      | some l =>
        rw [q, q2] at e; cases e
        obtain ⟨e1, f1⟩ := flat_of (bx := none) (H := Hf) (.of h) q
        obtain ⟨e2, f2⟩ := flats_of r q2
        subst e1 e2
        exact ⟨rfl, by rw [List.all_cons, f1, f2]; rfl⟩
/-- x in t, t a tuple of data of any depth -/
def rInDT (K : PySem.W.Frag) : R2 := fun x y H Q => ∃ d ds, Dp K H x d ∧ Dp K H y (.tuple ds) ∧ SeqAt.shaped d = true ∧ SeqAt.shaped (.tuple ds) = true ∧ Q (.bl (ds.any fun z => PyData.eqv z d)) H
def rNotInDT (K : PySem.W.Frag) : R2 := fun x y H Q => ∃ d ds, Dp K H x d ∧ Dp K H y (.tuple ds) ∧ SeqAt.shaped d = true ∧ SeqAt.shaped (.tuple ds) = true ∧ Q (.bl (!ds.any fun z => PyData.eqv z d)) H
section
variable {X : Cx}
theorem inDT_aux {pins : List (Addr × Obj)} {s : Shared} {σ : L2.St} {H : Hp} {x y : V} {v u : Value} {d : PyData} {ds : List PyData} (hu : X.A.units + 65 < cLine) (I : Inv X pins σ H s) (hd : Dp X.K H x d) (he : Dp X.K H y (.tuple ds)) (sd : SeqAt.shaped d = true) (se : SeqAt.shaped (.tuple ds) = true) (rx : RelV x v) (ry : RelV y u) :
    ∃ (a : Addr) (its : List Value), u = .ref a ∧ IsTup s.heap a its.toArray ∧ (∀ w ∈ its.toArray, SeqAt.EqAt X.A.in1 s w v (PyData.eqv (SeqAt.readOf s.heap w) d)) ∧ its.any (fun w => PyData.eqv (SeqAt.readOf s.heap w) d) = ds.any fun z => PyData.eqv z d := by
  obtain ⟨bs, r1⟩ := Dp.reads I d x v hd rx
  have hxs : PyData.canLayAll0 ds = true := SeqAt.canLay_of_shaped se
  have hroom : X.A.units + 1 + min (PyData.depthAll ds) d.depth < cLine := room_in_shaped sd hu
  cases he with
  | tup hs ha =>
    rename_i a xs
    cases ry
    obtain ⟨its, rv, p, hz⟩ := I.tuple hs
    obtain ⟨as, h4⟩ := Dp.readsAll I ds _ its ha rv
    have hmap : its.map (SeqAt.readOf s.heap) = ds := SeqAt.readsAll_map ds its as hxs h4
    refine ⟨a, its, rfl, p, ?_, ?_⟩
    · intro w hw
      exact SeqAt.items_eqAt (vs := its.toArray) (show ReadsAll s.heap its.toArray.toList ds as from h4) r1 hxs (SeqAt.canLay_of_shaped sd) hroom w hw
    · rw [← hmap, List.any_map]; rfl
theorem op_inDT (hu : X.A.units + 65 < cLine) : OpR X (compareOp .In) (rInDT X.K) := by
  intro pins s σ H x y v u Q I rx ry h
  obtain ⟨d, ds, hd, he, sd, se, q⟩ := h
  obtain ⟨a, its, rfl, p, h1, h2⟩ := inDT_aux hu I hd he sd se rx ry
  refine SeqAt.in_tupleAt _ p h1 ⟨.bl _, H, I, rfl, ?_⟩
  rw [show its.toArray.any (fun w => PyData.eqv (SeqAt.readOf s.heap w) d) = its.any (fun w => PyData.eqv (SeqAt.readOf s.heap w) d) by simp, h2]
  exact q
theorem op_notInDT (hu : X.A.units + 65 < cLine) : OpR X (compareOp .NotIn) (rNotInDT X.K) := by
  intro pins s σ H x y v u Q I rx ry h
  obtain ⟨d, ds, hd, he, sd, se, q⟩ := h
  obtain ⟨a, its, rfl, p, h1, h2⟩ := inDT_aux hu I hd he sd se rx ry
  refine SeqAt.notIn_tupleAt _ p h1 ⟨.bl _, H, I, rfl, ?_⟩
  rw [show its.toArray.any (fun w => PyData.eqv (SeqAt.readOf s.heap w) d) = its.any (fun w => PyData.eqv (SeqAt.readOf s.heap w) d) by simp, h2]
  exact q
end
/-- x in s (one sign), in a list, in a tuple -/
def inSeq (neg : Bool) (x y : D) : Option D := match x.py, y.py with
  | some p, some (.list ds) => ifD (SeqAt.shaped p = true ∧ SeqAt.shaped (.list ds) = true) (.bl (if neg then !(ds.any fun z => PyData.eqv z p) else ds.any fun z => PyData.eqv z p))
  | some p, some (.tuple ds) => ifD (SeqAt.shaped p = true ∧ SeqAt.shaped (.tuple ds) = true) (.bl (if neg then !(ds.any fun z => PyData.eqv z p) else ds.any fun z => PyData.eqv z p))
  | _, _ => none
def inStr (neg : Bool) (x y : Str) : Option D := match x.cps.toList with
  | [c] => some (.bl (if neg then !decide (c ∈ y.cps.toList) else decide (c ∈ y.cps.toList)))
  | _ => none
def pIn (neg : Bool) : D → D → Option D
  | .str x, .str y => inStr neg x y
  | x, y => inSeq neg x y
def rInU (K : PySem.W.Frag) : R2 := fun x y H Q => (∃ (c : Nat) (z : Str), x = .str ⟨#[c]⟩ ∧ y = .str z ∧ Q (.bl (decide (c ∈ z.cps.toList))) H) ∨ rInD K x y H Q ∨ rInDT K x y H Q
def rNotInU (K : PySem.W.Frag) : R2 := fun x y H Q => (∃ (c : Nat) (z : Str), x = .str ⟨#[c]⟩ ∧ y = .str z ∧ Q (.bl (!decide (c ∈ z.cps.toList))) H) ∨ rNotInD K x y H Q ∨ rNotInDT K x y H Q
theorem op_inU {X : Cx} (hu : X.A.units + 65 < cLine) : OpR X (compareOp .In) (rInU X.K) := op_in_sign.or ((op_inD hu).or (op_inDT hu))
theorem op_notInU {X : Cx} (hu : X.A.units + 65 < cLine) : OpR X (compareOp .NotIn) (rNotInU X.K) := op_notIn_sign.or ((op_notInD hu).or (op_notInDT hu))
theorem one_sign {x : Str} {c : Nat} (h : x.cps.toList = [c]) : x = ⟨#[c]⟩ := by
  obtain ⟨⟨l⟩⟩ := x
  simp only at h
  subst h; rfl
theorem inSeq_some {neg : Bool} {x y d : D} (e : inSeq neg x y = some d) : ∃ p ds, x.py = some p ∧ (y.py = some (.list ds) ∨ y.py = some (.tuple ds)) ∧ SeqAt.shaped p = true ∧ (y.py = some (.list ds) → SeqAt.shaped (.list ds) = true) ∧ (y.py = some (.tuple ds) → SeqAt.shaped (.tuple ds) = true) ∧
    d = .bl (if neg then !(ds.any fun z => PyData.eqv z p) else ds.any fun z => PyData.eqv z p) := by
  unfold inSeq at e
  cases ex : x.py with
  | none => rw [ex] at e; cases e
  | some p =>
    cases ey : y.py with
    | none => rw [ex, ey] at e; cases e
    | some w =>
      rw [ex, ey] at e
      cases w with
      | list ds =>
        obtain ⟨hc, rfl⟩ := ifD_some e
        exact ⟨p, ds, rfl, .inl rfl, hc.1, fun _ => hc.2, (fun z => nomatch z), rfl⟩
      | tuple ds =>
        obtain ⟨hc, rfl⟩ := ifD_some e
        exact ⟨p, ds, rfl, .inr rfl, hc.1, (fun z => nomatch z), fun _ => hc.2, rfl⟩
      | _ => cases e
theorem rv_in : RvM K bx (rInU K) (pIn false) := by
  intro Hf H x y d vx vy hi b rx ry e Q q
  have go : inSeq false x y = some d → rInU K vx vy H Q := fun e => by
    obtain ⟨p, ds, e1, e2, s1, s2, s3, rfl⟩ := inSeq_some e
    rcases e2 with e2 | e2
    · exact .inr (.inl ⟨p, ds, rx.dp hi e1, ry.dp hi e2, s1, s2 e2, rv_now hi b (.bl _) q⟩)
    · exact .inr (.inr ⟨p, ds, rx.dp hi e1, ry.dp hi e2, s1, s3 e2, rv_now hi b (.bl _) q⟩)
  cases x with
  | str i =>
    cases y with
    | str j =>
      replace e : inStr false i j = some d := e
      unfold inStr at e
      split at e
      · rename_i c hc
        cases e
        obtain rfl := rx.str
        obtain rfl := ry.str
        exact .inl ⟨c, j, by rw [one_sign hc], rfl, rv_now hi b (.bl _) q⟩
      · cases e
    | _ => exact go e
  | _ => exact go (by cases y <;> exact e)
theorem rv_notin : RvM K bx (rNotInU K) (pIn true) := by
  intro Hf H x y d vx vy hi b rx ry e Q q
  have go : inSeq true x y = some d → rNotInU K vx vy H Q := fun e => by
    obtain ⟨p, ds, e1, e2, s1, s2, s3, rfl⟩ := inSeq_some e
    rcases e2 with e2 | e2
    · exact .inr (.inl ⟨p, ds, rx.dp hi e1, ry.dp hi e2, s1, s2 e2, rv_now hi b (.bl _) q⟩)
    · exact .inr (.inr ⟨p, ds, rx.dp hi e1, ry.dp hi e2, s1, s3 e2, rv_now hi b (.bl _) q⟩)
  cases x with
  | str i =>
    cases y with
    | str j =>
      replace e : inStr true i j = some d := e
      unfold inStr at e
      split at e
      · rename_i c hc
        cases e
        obtain rfl := rx.str
        obtain rfl := ry.str
        exact .inl ⟨c, j, by rw [one_sign hc], rfl, rv_now hi b (.bl _) q⟩
      · cases e
    | _ => exact go e
  | _ => exact go (by cases y <;> exact e)

/-! ### a place in a list, a tuple, a text -/
def pIx : D → D → Option D
  | .lst xs, .int i => atI xs i
  | .tup xs, .int i => atI xs i
  | .str z, .int i => if z.length ≤ sizeLine then (atI z.cps.toList i).map fun c => .str ⟨#[c]⟩ else none
  | _, _ => none
theorem atI_rel {Hf : Hp} {ds : List D} {vs : List V} {i : Int} {d : D} (r : RpL K Hf ds vs) (e : atI ds i = some d) : ∃ v, atI vs i = some v ∧ Rp K Hf d v := by
  unfold atI at e ⊢
  rw [← r.length]
  cases q : ixN ds.length i with
  | none => rw [q] at e; cases e
  | some j =>
    rw [q] at e
    exact r.get' e
theorem rv_ix : RvM K bx (rIx K) pIx := by
  intro Hf H x y d vx vy hi b rx ry e Q q
  cases x with
  | lst xs =>
    cases y with
    | int i =>
      obtain ⟨p, vs, rfl, h1, r1⟩ := rx.lst hi
      obtain rfl := ry.int
      obtain ⟨v, e1, r2⟩ := atI_rel r1 e
      exact .inl ⟨p, vs, i, v, rfl, rfl, .of h1, e1, rv_now hi b r2 q⟩
    | _ => cases e
  | tup xs =>
    cases y with
    | int i =>
      obtain ⟨p, vs, rfl, h1, r1⟩ := rx.tup
      obtain rfl := ry.int
      obtain ⟨v, e1, r2⟩ := atI_rel r1 e
      exact .inr (.inl ⟨p, vs, i, v, rfl, rfl, ex_t hi h1, e1, rv_now hi b r2 q⟩)
    | _ => cases e
  | str z =>
    cases y with
    | int i =>
      replace e : (if z.length ≤ sizeLine then (atI z.cps.toList i).map fun c => D.str ⟨#[c]⟩ else none) = some d := e
      split at e
      · obtain rfl := rx.str
        obtain rfl := ry.int
        rename_i hz
        cases e1 : atI z.cps.toList i with
        | none => rw [e1] at e; cases e
        | some c =>
          rw [e1] at e; cases e
          exact .inr (.inr ⟨z, i, c, rfl, rfl, hz, e1, rv_now hi b (.str _) q⟩)
      · cases e
    | _ => cases e
  | _ => cases y <;> cases e
end

/-! ### slices -/
section
variable {M : Type → Type} [WPM M] {X : Cx} {bx : Bx} {e a b c : Expr} {es : List Expr} {ma mb mc me : En → M D} {pos : Pos}
def OvM (K : PySem.W.Frag) (bx : Bx) (to : TO) (me : En → M (Option Int)) : Prop := ∀ {Hf0 H0 : Hp} {E : En} {σ : L2.St} {Hf H : Hp}, EnvOk K bx Hf0 H0 E σ Hf H → ∀ {P : Option Int → Prop}, wp (me E) P →
  ∀ Q : Option Int → Hp → Prop, (∀ o Hf2 H2, P o → Step (isB bx) Hf H Hf2 H2 → BoxOk bx Hf2 H2 → Q o H2) → to σ H Q
structure OM (X : Cx) (bx : Bx) (e : Option Expr) (me : En → M (Option Int)) : Prop where
  ex : ∃ te, PO X e te ∧ OvM X.K bx te me
def mNoPart : En → M (Option Int) := fun _ => pure none
def D.toI : D → Option Int
  | .int i => some i
  | _ => none
def mPart (ma : En → M D) : En → M (Option Int) := fun E => ma E >>= fun x => lift x.toI >>= fun i => pure (some i)
theorem om_none : OM X bx none (mNoPart : En → M (Option Int)) := ⟨_, po_none, fun {Hf0 H0 E σ Hf H} I {P} w Q q => q _ Hf H (wp_pure w) (.refl I.st.i) I.box⟩
theorem toI_of {d : D} {i : Int} (h : d.toI = some i) : d = .int i := by cases d <;> cases h; rfl
theorem om_some (ha : PM X bx a ma) : OM X bx (some a) (mPart ma) := by
  obtain ⟨ta, h1, h2⟩ := ha.ex
  refine ⟨_, po_some h1, fun {Hf0 H0 E σ Hf H} I {P} w Q q => ?_⟩
  refine h2 I (wp_bind w) _ fun d v Hf2 H2 w2 s2 b2 r2 => ?_
  obtain ⟨i, ei, w3⟩ := wp_lift (wp_bind w2)
  obtain rfl := toI_of ei
  cases r2
  exact ⟨i, rfl, q _ Hf2 H2 (wp_pure w3) s2 b2⟩
def cutD (xs : List D) (lo hi : Option Int) : List D := (xs.drop (HT.sIx xs.length 0 lo)).take (HT.sIx xs.length xs.length hi - HT.sIx xs.length 0 lo)
def pSl (lo hi : Option Int) : D → Option D
  | .lst xs => some (.lst (cutD xs lo hi))
  | .tup xs => some (.tup (cutD xs lo hi))
  | .str z => ifD (z.length ≤ sizeLine) (.str (cutS z lo hi))
  | _ => none
def mSl (ma : En → M D) (ml mh : En → M (Option Int)) : En → M D := fun E => ma E >>= fun x => ml E >>= fun l => mh E >>= fun h => lift (pSl l h x)
def rSlU (K : PySem.W.Frag) : V → Option Int → Option Int → Hp → VK → Prop := fun x lo hi H Q => rSlL K x lo hi H Q ∨ rSlA K x lo hi H Q ∨ rSlS x lo hi H Q
theorem cut_rel {K : PySem.W.Frag} {Hf : Hp} {ds : List D} {vs : List V} (r : RpL K Hf ds vs) (lo hi : Option Int) : RpL K Hf (cutD ds lo hi) (cutV vs lo hi) := by
  unfold cutD cutV
  rw [← r.length]
  exact (r.drop _).take _
theorem cut_whole {xs : List V} {lo hi : Option Int} (h : HT.sIx xs.length 0 lo = 0 ∧ HT.sIx xs.length xs.length hi = xs.length) : cutV xs lo hi = xs := by
  unfold cutV
  rw [h.1, h.2, List.drop_zero, Nat.sub_zero, List.take_length]
theorem pm_sl (ho : SlR X (rSlU X.K)) (ha : BM X bx a ma) {lo hi : Option Expr} {ml mh : En → M (Option Int)} {p2 : Pos} (hl : OM X bx lo ml) (hh : OM X bx hi mh) : PM X bx (.Subscript a (.Slice lo hi none p2) pos) (mSl ma ml mh) := by
  obtain ⟨ta, a1, a2⟩ := ha.ex
  obtain ⟨tl, l1, l2⟩ := hl.ex
  obtain ⟨th, h1, h2⟩ := hh.ex
  refine ⟨_, pe_slice ho a1 l1 h1, fun {Hf0 H0 E σ Hf H} I {P} w Q q => ?_⟩
  refine a2 I (wp_bind w) _ fun d v Hf2 H2 w2 s2 b2 r2 => ?_
  refine l2 (I.step s2 b2) (wp_bind w2) _ fun l Hf3 H3 w3 s3 b3 => ?_
  refine h2 ((I.step s2 b2).step s3 b3) (wp_bind w3) _ fun h Hf4 H4 w4 s4 b4 => ?_
  obtain ⟨z, ez, p⟩ := wp_lift w4
  have r4 := (r2.step s3).step s4
  have q' : ∀ v Hf5 H5, Step (isB bx) Hf4 H4 Hf5 H5 → BoxOk bx Hf5 H5 → Rp X.K Hf5 z v → Q v H5 := fun v Hf5 H5 s5 b5 r5 => q z v Hf5 H5 p (((s2.trans s3).trans s4).trans s5) b5 r5
  cases d with
  | lst xs =>
    cases ez
    obtain ⟨p, vs, rfl, e1, r1⟩ := r4.lst s4.i
    exact .inl ⟨p, vs, rfl, .of e1, fun o ho => rv_lst s4.i b4 (cut_rel r1 l h) ho q'⟩
  | tup xs =>
    cases ez
    obtain ⟨p, vs, rfl, e1, r1⟩ := r4.tup
    refine .inr (.inl ⟨p, vs, rfl, ex_t s4.i e1, fun hw => ?_, fun _ o ho => rv_tup s4.i b4 (cut_rel r1 l h) ho q'⟩)
    have rc := cut_rel r1 l h
    rw [cut_whole hw] at rc
    exact rv_now s4.i b4 (.tup e1 rc) q'
  | str z =>
    obtain ⟨hz, rfl⟩ := ifD_some ez
    obtain rfl := r4.str
    exact .inr (.inr ⟨z, rfl, hz, rv_now s4.i b4 (.str _) q'⟩)
  | _ => cases ez
end
end Fm
set_option Elab.async false
set_option linter.all false
set_option maxRecDepth 100000
set_option maxHeartbeats 2000000
set_option autoImplicit false
namespace Fm
open PySem PySem.Spec PyProof.Rows L2
open Evl (Ex ex_l ex_t ex_rd)
open WPM
section
variable {M : Type → Type} [WPM M] {X : Cx} {bx : Bx} {e a b c : Expr} {es rest : List Expr} {ma mb mc me : En → M D} {mt mu : En → M Bool} {pos : Pos}
/-! ### tests -/
def D.toB : D → Option Bool
  | .bl b => some b
  | _ => none
theorem toB_of {d : D} {b : Bool} (h : d.toB = some b) : d = .bl b := by cases d <;> cases h; rfl
def mTest (ma : En → M D) : En → M Bool := fun E => ma E >>= fun x => lift x.toB
theorem tm_cmp {op : CmpOp} {r : R2} {f : D → D → Option D} (ho : OpR X (compareOp op) r) (hr : RvM X.K bx r f) (ha : BM X bx a ma) (hb : BM X bx b mb) (hm : behindInMarks op b = false) : TM X bx (.Compare a [op] [b] pos) (mTest (mOp f ma mb)) := by
  obtain ⟨ta, a1, a2⟩ := ha.ex
  obtain ⟨tb, b1, b2⟩ := hb.ex
  refine ⟨_, pt_cmpR ho a1 b1 hm, fun {Hf0 H0 E σ Hf H} I {P} w Q q => ?_⟩
  refine ev_op hr a2 b2 I (wp_bind w) _ fun d v Hf2 H2 w2 s2 o2 r2 => ?_
  obtain ⟨k, ek, p⟩ := wp_lift w2
  obtain rfl := toB_of ek
  cases r2
  exact ⟨k, rfl, q k Hf2 H2 p s2 o2⟩
/-- the truth of a value -/
def D.tru : D → Option Bool
  | .non => some false
  | .bl b => some b
  | .int i => some (i != 0)
  | .str y => if y.length ≤ sizeLine then some ((y.length : Int) != 0) else none
  | .lst xs => some (!xs.isEmpty)
  | .tup xs => some (!xs.isEmpty)
  | .dct ks _ => some (!ks.isEmpty)
  | .fn _ => none
def mTru (ma : En → M D) : En → M Bool := fun E => ma E >>= fun x => lift x.tru
theorem isEmpty_eq {α β : Type} {xs : List α} {ys : List β} (e : xs.length = ys.length) : xs.isEmpty = ys.isEmpty := by
  cases xs <;> cases ys <;> first | rfl | cases e
theorem tru_of {K : PySem.W.Frag} {Hf H : Hp} {d : D} {v : V} {k : Bool} (hi : Ex Hf H) (r : Rq K bx Hf H d v) (e : d.tru = some k) : TruV K v H k := by
  cases d with
  | non => cases e; obtain rfl := r.non; rfl
  | bl b => cases e; obtain rfl := r.bl; rfl
  | int i => cases e; obtain rfl := r.int; rfl
  | str y =>
    obtain rfl := r.str
    rw [D.tru] at e
    split at e
    · cases e; exact ⟨by assumption, rfl⟩
    · cases e
  | lst xs =>
    cases e
    obtain ⟨p, vs, rfl, h1, r1⟩ := r.lst hi
    exact .inl ⟨vs, .of h1, by rw [isEmpty_eq r1.length]⟩
  | tup xs =>
    cases e
    obtain ⟨p, vs, rfl, h1, r1⟩ := r.tup
    exact .inr (.inl ⟨vs, ex_t hi h1, by rw [isEmpty_eq r1.length]⟩)
  | dct ks ds =>
    cases e
    obtain ⟨p, kvs, rfl, h1, z, r1⟩ := r.dct hi
    exact .inr (.inr ⟨kvs, h1, by rw [← z, isEmpty_eq (List.length_map _)]⟩)
  | fn a => cases e
theorem tm_tru (ha : BM X bx a ma) (he : ∀ whole, isTrue a X.env whole = (do let v ← whole; standAt a.pos; holding [v] (truthy v))) : TM X bx a (mTru ma) := by
  obtain ⟨ta, a1, a2⟩ := ha.ex
  refine ⟨_, pt_truth a1 he, fun {Hf0 H0 E σ Hf H} I {P} w Q q => ?_⟩
  refine a2 I (wp_bind w) _ fun d v Hf2 H2 w2 s2 o2 r2 => ?_
  obtain ⟨k, ek, p⟩ := wp_lift w2
  exact ⟨k, tru_of s2.i r2 ek, q k Hf2 H2 p s2 o2⟩
def mNot (mt : En → M Bool) : En → M Bool := fun E => mt E >>= fun b => pure (!b)
theorem tm_not (h : TM X bx a mt) : TM X bx (.UnaryOp .Not a pos) (mNot mt) := by
  obtain ⟨ta, a1, a2⟩ := h.ex
  refine ⟨_, pt_not a1, fun {Hf0 H0 E σ Hf H} I {P} w Q q => ?_⟩
  exact a2 I (wp_bind w) _ fun k Hf2 H2 w2 s2 o2 => q _ Hf2 H2 (wp_pure w2) s2 o2
def mAnd (mt mu : En → M Bool) : En → M Bool := fun E => mt E >>= fun b => if b then mu E else pure false
def mOr (mt mu : En → M Bool) : En → M Bool := fun E => mt E >>= fun b => if b then pure true else mu E
theorem wm_and1 (h : TM X bx a mt) : WM X bx (.BoolOp .And [a] pos) mt := let ⟨_, a1, a2⟩ := h.ex; ⟨_, pw_and1 a1, a2⟩
theorem wm_or1 (h : TM X bx a mt) : WM X bx (.BoolOp .Or [a] pos) mt := let ⟨_, a1, a2⟩ := h.ex; ⟨_, pw_or1 a1, a2⟩
theorem wm_and (h : TM X bx a mt) (h2 : WM X bx (.BoolOp .And (b :: rest) pos) mu) : WM X bx (.BoolOp .And (a :: b :: rest) pos) (mAnd mt mu) := by
  obtain ⟨ta, a1, a2⟩ := h.ex
  obtain ⟨tb, b1, b2⟩ := h2.ex
  refine ⟨_, pw_and a1 b1, fun {Hf0 H0 E σ Hf H} I {P} w Q q => ?_⟩
  refine a2 I (wp_bind w) _ fun k Hf2 H2 w2 s2 o2 => ?_
  cases k with
  | true => exact b2 (I.step s2 o2) w2 Q fun k Hf3 H3 p s3 o3 => q k Hf3 H3 p (s2.trans s3) o3
  | false => exact q false Hf2 H2 (wp_pure w2) s2 o2
theorem wm_or (h : TM X bx a mt) (h2 : WM X bx (.BoolOp .Or (b :: rest) pos) mu) : WM X bx (.BoolOp .Or (a :: b :: rest) pos) (mOr mt mu) := by
  obtain ⟨ta, a1, a2⟩ := h.ex
  obtain ⟨tb, b1, b2⟩ := h2.ex
  refine ⟨_, pw_or a1 b1, fun {Hf0 H0 E σ Hf H} I {P} w Q q => ?_⟩
  refine a2 I (wp_bind w) _ fun k Hf2 H2 w2 s2 o2 => ?_
  cases k with
  | false => exact b2 (I.step s2 o2) w2 Q fun k Hf3 H3 p s3 o3 => q k Hf3 H3 p (s2.trans s3) o3
  | true => exact q true Hf2 H2 (wp_pure w2) s2 o2
/-! .. as values -/
def mAndV (ma mb : En → M D) : En → M D := fun E => ma E >>= fun x => lift x.toB >>= fun b => if b then mb E else pure (.bl false)
def mOrV (ma mb : En → M D) : En → M D := fun E => ma E >>= fun x => lift x.toB >>= fun b => if b then pure (.bl true) else mb E
def mNotV (ma : En → M D) : En → M D := fun E => ma E >>= fun x => lift x.tru >>= fun b => pure (.bl (!b))
theorem pm_one {op : BoolOp} (h : PM X bx a ma) : PM X bx (.BoolOp op [a] pos) ma := let ⟨_, a1, a2⟩ := h.ex; ⟨_, pe_one a1, a2⟩
theorem pm_and (ha : PM X bx a ma) (hb : PM X bx (.BoolOp .And (b :: rest) pos) mb) : PM X bx (.BoolOp .And (a :: b :: rest) pos) (mAndV ma mb) := by
  obtain ⟨ta, a1, a2⟩ := ha.ex
  obtain ⟨tb, b1, b2⟩ := hb.ex
  refine ⟨_, pe_and a1 b1, fun {Hf0 H0 E σ Hf H} I {P} w Q q => ?_⟩
  refine a2 I (wp_bind w) _ fun d v Hf2 H2 w2 s2 o2 r2 => ?_
  obtain ⟨k, ek, w3⟩ := wp_lift (wp_bind w2)
  obtain rfl := toB_of ek
  cases r2
  refine ⟨k, rfl, ?_⟩
  cases k with
  | true => exact b2 (I.step s2 o2) w3 Q fun d v Hf3 H3 p s3 o3 r3 => q d v Hf3 H3 p (s2.trans s3) o3 r3
  | false => exact q _ _ Hf2 H2 (wp_pure w3) s2 o2 (.bl _)
theorem pm_or (ha : PM X bx a ma) (hb : PM X bx (.BoolOp .Or (b :: rest) pos) mb) : PM X bx (.BoolOp .Or (a :: b :: rest) pos) (mOrV ma mb) := by
  obtain ⟨ta, a1, a2⟩ := ha.ex
  obtain ⟨tb, b1, b2⟩ := hb.ex
  refine ⟨_, pe_or a1 b1, fun {Hf0 H0 E σ Hf H} I {P} w Q q => ?_⟩
  refine a2 I (wp_bind w) _ fun d v Hf2 H2 w2 s2 o2 r2 => ?_
  obtain ⟨k, ek, w3⟩ := wp_lift (wp_bind w2)
  obtain rfl := toB_of ek
  cases r2
  refine ⟨k, rfl, ?_⟩
  cases k with
  | false => exact b2 (I.step s2 o2) w3 Q fun d v Hf3 H3 p s3 o3 r3 => q d v Hf3 H3 p (s2.trans s3) o3 r3
  | true => exact q _ _ Hf2 H2 (wp_pure w3) s2 o2 (.bl _)
theorem pm_not (ha : BM X bx a ma) : PM X bx (.UnaryOp .Not a pos) (mNotV ma) := by
  obtain ⟨ta, a1, a2⟩ := ha.ex
  refine ⟨_, pe_notT a1, fun {Hf0 H0 E σ Hf H} I {P} w Q q => ?_⟩
  refine a2 I (wp_bind w) _ fun d v Hf2 H2 w2 s2 o2 r2 => ?_
  obtain ⟨k, ek, w3⟩ := wp_lift (wp_bind w2)
  exact ⟨k, tru_of s2.i r2 ek, q _ _ Hf2 H2 (wp_pure w3) s2 o2 (.bl _)⟩
def mIf (mt : En → M Bool) (ma mb : En → M D) : En → M D := fun E => mt E >>= fun b => if b then ma E else mb E
theorem pm_if (hc : TM X bx c mt) (ha : PM X bx a ma) (hb : PM X bx b mb) : PM X bx (.IfExp c a b pos) (mIf mt ma mb) := by
  obtain ⟨tc, c1, c2⟩ := hc.ex
  obtain ⟨ta, a1, a2⟩ := ha.ex
  obtain ⟨tb, b1, b2⟩ := hb.ex
  refine ⟨_, pe_ifExp c1 a1 b1, fun {Hf0 H0 E σ Hf H} I {P} w Q q => ?_⟩
  refine c2 I (wp_bind w) _ fun k Hf2 H2 w2 s2 o2 => ?_
  cases k with
  | true => exact a2 (I.step s2 o2) w2 Q fun d v Hf3 H3 p s3 o3 r3 => q d v Hf3 H3 p (s2.trans s3) o3 r3
  | false => exact b2 (I.step s2 o2) w2 Q fun d v Hf3 H3 p s3 o3 r3 => q d v Hf3 H3 p (s2.trans s3) o3 r3
/-- a < b < c -/
def mChain (f g : D → D → Option D) (ma mb mc : En → M D) : En → M D := fun E => ma E >>= fun x => mb E >>= fun y => lift (f x y) >>= fun z => lift z.toB >>= fun k => if k then mc E >>= fun u => lift (g y u) >>= fun t => lift t.toB >>= fun j => pure (.bl j) else pure (.bl false)
theorem ev_chain {K : PySem.W.Frag} {r r' : R2} {f g : D → D → Option D} {ta tb tc : TE} (hr : RvM K bx r f) (hr' : RvM K bx r' g) (a2 : BvM K bx ta ma) (b2 : BvM K bx tb mb) (c2 : BvM K bx tc mc) : EvM K bx (tChain r r' ta tb tc) (mChain f g ma mb mc) := by
  intro Hf0 H0 E σ Hf H I P w Q q
  refine a2 I (wp_bind w) _ fun x vx Hf1 H1 w1 s1 o1 r1 => ?_
  refine b2 (I.step s1 o1) (wp_bind w1) _ fun y vy Hf2 H2 w2 s2 o2 r2 => ?_
  obtain ⟨z, ez, w3⟩ := wp_lift (wp_bind w2)
  obtain ⟨k, ek, w4⟩ := wp_lift (wp_bind w3)
  obtain rfl := toB_of ek
  refine hr s2.i o2 (r1.step s2) r2 ez _ fun v Hf3 H3 s3 o3 r3 => ?_
  cases r3
  refine ⟨k, rfl, ?_⟩
  cases k with
  | false => exact q _ _ Hf3 H3 (wp_pure w4) ((s1.trans s2).trans s3) o3 (.bl _)
  | true =>
    refine c2 (((I.step s1 o1).step s2 o2).step s3 o3) (wp_bind w4) _ fun u vu Hf4 H4 w5 s4 o4 r4 => ?_
    obtain ⟨t, et, w6⟩ := wp_lift (wp_bind w5)
    obtain ⟨j, ej, w7⟩ := wp_lift (wp_bind w6)
    obtain rfl := toB_of ej
    exact hr' s4.i o4 ((r2.step s3).step s4) r4 et Q fun v Hf5 H5 s5 o5 r5 => q _ v Hf5 H5 (wp_pure w7) ((((s1.trans s2).trans s3).trans s4).trans s5) o5 r5
theorem pm_chain {op op' : CmpOp} {r r' : R2} {f g : D → D → Option D} (ho : OpR X (compareOp op) r) (ho' : OpR X (compareOp op') r') (hr : RvM X.K bx r f) (hr' : RvM X.K bx r' g) (ha : BM X bx a ma) (hb : BM X bx b mb) (hc : BM X bx c mc)
    (hm : lastMarks [op, op'] [b, c] = false := by with_unfolding_all rfl) : PM X bx (.Compare a [op, op'] [b, c] pos) (mChain f g ma mb mc) := by
  obtain ⟨ta, a1, a2⟩ := ha.ex
  obtain ⟨tb, b1, b2⟩ := hb.ex
  obtain ⟨tc, c1, c2⟩ := hc.ex
  exact ⟨_, pe_chain ho ho' a1 b1 c1 hm, ev_chain hr hr' a2 b2 c2⟩
theorem tm_chain {op op' : CmpOp} {r r' : R2} {f g : D → D → Option D} (ho : OpR X (compareOp op) r) (ho' : OpR X (compareOp op') r') (hr : RvM X.K bx r f) (hr' : RvM X.K bx r' g) (ha : BM X bx a ma) (hb : BM X bx b mb) (hc : BM X bx c mc)
    (hm : lastMarks [op, op'] [b, c] = false := by with_unfolding_all rfl) : TM X bx (.Compare a [op, op'] [b, c] pos) (mTest (mChain f g ma mb mc)) := by
  obtain ⟨ta, a1, a2⟩ := ha.ex
  obtain ⟨tb, b1, b2⟩ := hb.ex
  obtain ⟨tc, c1, c2⟩ := hc.ex
  refine ⟨_, pt_chain ho ho' a1 b1 c1 hm, fun {Hf0 H0 E σ Hf H} I {P} w Q q => ?_⟩
  refine ev_chain hr hr' a2 b2 c2 I (wp_bind w) _ fun d v Hf2 H2 w2 s2 o2 r2 => ?_
  obtain ⟨k, ek, p⟩ := wp_lift w2
  obtain rfl := toB_of ek
  cases r2
  exact ⟨k, rfl, q k Hf2 H2 p s2 o2⟩

/-! ### arguments -/
def aNil : En → M (List D) := fun _ => pure []
def aCons (ma : En → M D) (mr : En → M (List D)) : En → M (List D) := fun E => ma E >>= fun x => mr E >>= fun xs => pure (x :: xs)
variable {mr : En → M (List D)} {ms : En → M (List Sl)}
theorem am_nil : AM X bx [] (aNil : En → M (List D)) := ⟨_, pa_nil, fun {Hf0 H0 E σ Hf H} I {P} w Q q => q _ _ Hf H (wp_pure w) (.refl I.st.i) I.box .nil⟩
theorem am_cons (ha : BM X bx a ma) (hr : AM X bx es mr) (hs : starEach (a :: es) X.env = (false, eval a X.env) :: starEach es X.env := by rfl) : AM X bx (a :: es) (aCons ma mr) := by
  obtain ⟨ta, a1, a2⟩ := ha.ex
  obtain ⟨tr, r1, r2⟩ := hr.ex
  refine ⟨_, pa_cons a1 r1 hs, fun {Hf0 H0 E σ Hf H} I {P} w Q q => ?_⟩
  refine a2 I (wp_bind w) _ fun d v Hf2 H2 w2 s2 o2 z2 => ?_
  refine r2 (I.step s2 o2) (wp_bind w2) _ fun ds vs Hf3 H3 w3 s3 o3 z3 => ?_
  exact q _ _ Hf3 H3 (wp_pure w3) (s2.trans s3) o3 (.cons (z2.step s3) z3)
def cCons (ma : En → M D) (mr : En → M (List Sl)) : En → M (List Sl) := fun E => ma E >>= fun x => mr E >>= fun xs => pure (.sh x :: xs)
def cNil : En → M (List Sl) := fun _ => pure []
/-- the box handed on -/
def cBox (i : Nat) (mr : En → M (List Sl)) : En → M (List Sl) := fun E => match E[i]? with
  | some .bx => mr E >>= fun xs => pure (.bx :: xs)
  | _ => fail
theorem cm_nil : CM X bx [] (cNil : En → M (List Sl)) := ⟨_, pa_nil, fun {Hf0 H0 E σ Hf H} I {P} w Q q => q _ _ Hf H (wp_pure w) (.refl I.st.i) I.box .nil⟩
theorem cm_cons (ha : PM X bx a ma) (hr : CM X bx es ms) (hs : starEach (a :: es) X.env = (false, eval a X.env) :: starEach es X.env := by rfl) : CM X bx (a :: es) (cCons ma ms) := by
  obtain ⟨ta, a1, a2⟩ := ha.ex
  obtain ⟨tr, r1, r2⟩ := hr.ex
  refine ⟨_, pa_cons a1 r1 hs, fun {Hf0 H0 E σ Hf H} I {P} w Q q => ?_⟩
  refine a2 I (wp_bind w) _ fun d v Hf2 H2 w2 s2 o2 z2 => ?_
  refine r2 (I.step s2 o2) (wp_bind w2) _ fun ds vs Hf3 H3 w3 s3 o3 z3 => ?_
  exact q _ _ Hf3 H3 (wp_pure w3) (s2.trans s3) o3 (.cons (show Rp X.K Hf3 d v from z2.mono s3.f) z3)
theorem cm_box (i : Nat) {x : Str} {p : Pos} (h : PE X (.Name x p) (tVar i)) (hr : CM X bx es ms) (hs : starEach (.Name x p :: es) X.env = (false, eval (.Name x p) X.env) :: starEach es X.env := by rfl) : CM X bx (.Name x p :: es) (cBox i ms) := by
  obtain ⟨tr, r1, r2⟩ := hr.ex
  refine ⟨_, pa_cons h r1 hs, fun {Hf0 H0 E σ Hf H} I {P} w Q q => ?_⟩
  unfold cBox at w
  cases e : E[i]? with
  | none => rw [e] at w; exact absurd w wp_fail
  | some s =>
    rw [e] at w
    cases s with
    | bx =>
      obtain ⟨b, c, e1, e2⟩ := I.at e
      refine ⟨_, e2, ?_⟩
      refine r2 I (wp_bind w) _ fun ds vs Hf3 H3 w3 s3 o3 z3 => ?_
      exact q _ _ Hf3 H3 (wp_pure w3) s3 o3 (.cons ⟨b, c, e1, rfl⟩ z3)
    | _ => exact absurd w wp_fail
/-- what a call takes, all of it data -/
def shs : List Sl → Option (List D)
  | [] => some []
  | .sh d :: r => match shs r with
    | some l => some (d :: l)
    | none => none
  | _ :: _ => none
theorem shs_of {K : PySem.W.Frag} {Hf : Hp} : ∀ {ss : List Sl} {vs : List V} {ds : List D}, ArgL K bx Hf ss vs → shs ss = some ds → RpL K Hf ds vs
  | [], _, ds, .nil, e => by cases e; exact .nil
  | s :: ss, _ :: vs, ds, .cons h r, e => by
    cases s with
    | sh d =>
      rw [shs] at e
      cases q : shs ss with
      | none => rw [q] at e; cases e
      | some l => rw [q] at e; cases e; exact .cons h (shs_of r q)
    | _ => cases e

/-! ### displays -/
def mTup (ms : En → M (List Sl)) : En → M D := fun E => ms E >>= fun ss => lift (shs ss) >>= fun ds => lift (ifD (ds.length ≤ sizeLine) (.tup ds))
def mLst (ms : En → M (List Sl)) : En → M D := fun E => ms E >>= fun ss => lift (shs ss) >>= fun ds => lift (ifD (ds.length ≤ sizeLine) (.lst ds))
theorem pm_tup {x1 : Nat} (h : CM X bx es ms) : PM X bx (.Tuple es x1 pos) (mTup ms) := by
  obtain ⟨ta, a1, a2⟩ := h.ex
  refine ⟨_, pe_tup a1, fun {Hf0 H0 E σ Hf H} I {P} w Q q => ?_⟩
  refine a2 I (wp_bind w) _ fun ss vs Hf2 H2 w2 s2 o2 z2 => ?_
  obtain ⟨ds, e1, w3⟩ := wp_lift (wp_bind w2)
  obtain ⟨d, e2, p⟩ := wp_lift w3
  obtain ⟨hl, rfl⟩ := ifD_some e2
  have rl := shs_of z2 e1
  refine ⟨by rw [← rl.length]; exact hl, fun o ho => rv_tup s2.i o2 rl ho fun v Hf3 H3 s3 o3 r3 => q _ v Hf3 H3 p (s2.trans s3) o3 r3⟩
theorem pm_lst (h : CM X bx es ms) : PM X bx (.List es pos) (mLst ms) := by
  obtain ⟨ta, a1, a2⟩ := h.ex
  refine ⟨_, pe_lst a1, fun {Hf0 H0 E σ Hf H} I {P} w Q q => ?_⟩
  refine a2 I (wp_bind w) _ fun ss vs Hf2 H2 w2 s2 o2 z2 => ?_
  obtain ⟨ds, e1, w3⟩ := wp_lift (wp_bind w2)
  obtain ⟨d, e2, p⟩ := wp_lift w3
  obtain ⟨hl, rfl⟩ := ifD_some e2
  have rl := shs_of z2 e1
  refine ⟨by rw [← rl.length]; exact hl, fun o ho => rv_lst s2.i o2 rl ho fun v Hf3 H3 s3 o3 r3 => q _ v Hf3 H3 p (s2.trans s3) o3 r3⟩

/-! ### built-ins -/
def mCallB (f : List D → Option D) (mr : En → M (List D)) : En → M D := fun E => mr E >>= fun ds => lift (f ds)
def RcM (K : PySem.W.Frag) (bx : Bx) (r : List V → Hp → VK → Prop) (f : List D → Option D) : Prop := ∀ {Hf H : Hp} {ds : List D} {d : D} {vs : List V}, Ex Hf H → BoxOk bx Hf H → RqL K bx Hf H ds vs → f ds = some d →
  ∀ Q : VK, (∀ v Hf2 H2, Step (isB bx) Hf H Hf2 H2 → BoxOk bx Hf2 H2 → Rp K Hf2 d v → Q v H2) → r vs H Q
theorem ev_cb {K : PySem.W.Frag} {r : List V → Hp → VK → Prop} {f : List D → Option D} {ta : TA} (hr : RcM K bx r f) (a2 : AvM K bx ta mr) : EvM K bx (tCB r ta) (mCallB f mr) := by
  intro Hf0 H0 E σ Hf H I P w Q q
  refine a2 I (wp_bind w) _ fun ds vs Hf2 H2 w2 s2 o2 z2 => ?_
  obtain ⟨d, e, p⟩ := wp_lift w2
  exact hr s2.i o2 z2 e Q fun v Hf3 H3 s3 o3 r3 => q d v Hf3 H3 p (s2.trans s3) o3 r3
theorem pm_callB {x : Str} {p : Pos} {id : String} {r : List V → Hp → VK → Prop} {f : List D → Option D} (hc : CallR X (.builtin id) r) (hr : RcM X.K bx r f) (hg : Gl X x) (hm : X.mg x = none) (hv : bootBuiltins x = some (.builtin id)) (ha : AM X bx (e :: es) mr)
    (hn : x ≠ "__name__" := by decide) (hdb : (x == ("__debug__" : Str)) = false := by decide) (h1 : starEach (e :: es) X.env = (false, eval e X.env) :: starEach es X.env := by rfl) (h2 : ((backTo pos (starEach es X.env)).any fun x => x.fst) = false := by rfl) :
    PM X bx (.Call (.Name x p) (e :: es) [] pos) (mCallB f mr) :=
  let ⟨_, a1, a2⟩ := ha.ex; ⟨_, pe_callB hc hg hm hv a1 hn hdb h1 h2, ev_cb hr a2⟩
theorem pm_callTy {x : Str} {p : Pos} {T : String} {r : List V → Hp → VK → Prop} {f : List D → Option D} (hc : CallR X (.type T) r) (hr : RcM X.K bx r f) (hg : Gl X x) (hm : X.mg x = none) (hv : bootBuiltins x = some (.type T)) (ha : AM X bx (e :: es) mr)
    (hn : x ≠ "__name__" := by decide) (hdb : (x == ("__debug__" : Str)) = false := by decide) (h1 : starEach (e :: es) X.env = (false, eval e X.env) :: starEach es X.env := by rfl) (h2 : ((backTo pos (starEach es X.env)).any fun x => x.fst) = false := by rfl) :
    PM X bx (.Call (.Name x p) (e :: es) [] pos) (mCallB f mr) :=
  let ⟨_, a1, a2⟩ := ha.ex; ⟨_, pe_callTy hc hg hm hv a1 hn hdb h1 h2, ev_cb hr a2⟩
end
end Fm
set_option Elab.async false
set_option linter.all false
set_option maxRecDepth 100000
set_option maxHeartbeats 2000000
set_option autoImplicit false
namespace Fm
open PySem PySem.Spec PyProof.Rows L2
open Evl (Ex ex_l ex_t ex_rd)
open WPM
section
variable {K : PySem.W.Frag} {bx : Bx}
/-! ### built-ins on data -/
def fLen : List D → Option D
  | [.lst xs] => some (.int xs.length)
  | [.tup xs] => some (.int xs.length)
  | [.str z] => ifD (z.length ≤ sizeLine) (.int z.length)
  | [.dct ks _] => some (.int ks.length)
  | _ => none
def rLenU (K : PySem.W.Frag) : List V → Hp → VK → Prop := fun xs H Q => (∃ p ys, xs = [.ref p] ∧ (SqL K H p ys ∨ SqT K H p ys) ∧ Q (.int ys.length) H) ∨ (∃ z, xs = [.str z] ∧ z.length ≤ sizeLine ∧ Q (.int z.length) H) ∨ ∃ a kvs, xs = [V.ref a] ∧ H a = some (.dK kvs) ∧ Q (.int kvs.length) H
theorem call_lenU {X : Cx} : CallR X (.builtin "len") (rLenU X.K) := call_len_seq.or (call_len_str.or call_lenD)
theorem RqL.one {Hf H : Hp} {d : D} {vs : List V} (h : RqL K bx Hf H [d] vs) : ∃ v, vs = [v] ∧ Rq K bx Hf H d v := by
  cases h with
  | cons h r => cases r; exact ⟨_, rfl, h⟩
theorem rc_len : RcM K bx (rLenU K) fLen := by
  intro Hf H ds d vs hi b r e Q q
  match ds, e, r with
  | [x], e, r =>
    obtain ⟨v, rfl, r1⟩ := r.one
    cases x with
    | lst xs =>
      cases e
      obtain ⟨p, vs, rfl, h1, r2⟩ := r1.lst hi
      refine .inl ⟨p, vs, rfl, .inl (.of h1), ?_⟩
      rw [← r2.length]
      exact rv_now hi b (.int _) q
    | tup xs =>
      cases e
      obtain ⟨p, vs, rfl, h1, r2⟩ := r1.tup
      refine .inl ⟨p, vs, rfl, .inr (ex_t hi h1), ?_⟩
      rw [← r2.length]
      exact rv_now hi b (.int _) q
    | str z =>
      obtain ⟨hz, rfl⟩ := ifD_some e
      obtain rfl := r1.str
      exact .inr (.inl ⟨z, rfl, hz, rv_now hi b (.int _) q⟩)
    | dct ks ds =>
      cases e
      obtain ⟨p, kvs, rfl, h1, z, r2⟩ := r1.dct hi
      refine .inr (.inr ⟨p, kvs, rfl, h1, ?_⟩)
      rw [show kvs.length = ks.length by rw [← z, List.length_map]]
      exact rv_now hi b (.int _) q
    | _ => cases e
  | [], e, r => cases e
  | x :: y :: l, e, r => cases x <;> cases e
def D.bools : List D → Option (List Bool)
  | [] => some []
  | .bl i :: r => match D.bools r with
    | some l => some (i :: l)
    | none => none
  | _ :: _ => none
theorem bools_of {Hf : Hp} : ∀ {ds : List D} {vs : List V} {ns : List Bool}, RpL K Hf ds vs → D.bools ds = some ns → vs = ns.map V.bl
  | [], _, ns, .nil, e => by cases e; rfl
  | d :: ds, _ :: vs, ns, .cons h r, e => by
    cases d with
    | bl i =>
      rw [D.bools] at e
      cases q : D.bools ds with
      | none => rw [q] at e; cases e
      | some l =>
        rw [q] at e; cases e
        cases h
        rw [bools_of r q]; rfl
    | _ => cases e
def fAll : List D → Option D
  | [.lst xs] => (D.bools xs).map fun bs => .bl (bs.all id)
  | _ => none
def fAny : List D → Option D
  | [.lst xs] => (D.bools xs).map fun bs => .bl (bs.any id)
  | _ => none
theorem rc_all : RcM K bx (rAll K) fAll := by
  intro Hf H ds d vs hi b r e Q q
  match ds, e, r with
  | [.lst xs], e, r =>
    obtain ⟨v, rfl, r1⟩ := r.one
    obtain ⟨p, vs, rfl, h1, r2⟩ := r1.lst hi
    replace e : (D.bools xs).map (fun bs => D.bl (bs.all id)) = some d := e
    cases e1 : D.bools xs with
    | none => rw [e1] at e; cases e
    | some bs =>
      rw [e1] at e; cases e
      have z := bools_of r2 e1
      subst z
      exact ⟨p, bs, rfl, .of h1, rv_now hi b (.bl _) q⟩
theorem rc_any : RcM K bx (rAny K) fAny := by
  intro Hf H ds d vs hi b r e Q q
  match ds, e, r with
  | [.lst xs], e, r =>
    obtain ⟨v, rfl, r1⟩ := r.one
    obtain ⟨p, vs, rfl, h1, r2⟩ := r1.lst hi
    replace e : (D.bools xs).map (fun bs => D.bl (bs.any id)) = some d := e
    cases e1 : D.bools xs with
    | none => rw [e1] at e; cases e
    | some bs =>
      rw [e1] at e; cases e
      have z := bools_of r2 e1
      subst z
      exact ⟨p, bs, rfl, .of h1, rv_now hi b (.bl _) q⟩
def fSum : List D → Option D
  | [.lst xs] => (D.ints xs).map fun ns => .int ns.sum
  | _ => none
theorem rc_sum : RcM K bx (rSum K) fSum := by
  intro Hf H ds d vs hi b r e Q q
  match ds, e, r with
  | [.lst xs], e, r =>
    obtain ⟨v, rfl, r1⟩ := r.one
    obtain ⟨p, vs, rfl, h1, r2⟩ := r1.lst hi
    replace e : (D.ints xs).map (fun ns => D.int ns.sum) = some d := e
    cases e1 : D.ints xs with
    | none => rw [e1] at e; cases e
    | some bs =>
      rw [e1] at e; cases e
      have z := ints_of r2 e1
      subst z
      exact ⟨p, bs, rfl, .of h1, rv_now hi b (.int _) q⟩
def fList : List D → Option D
  | [.lst xs] => some (.lst xs)
  | [.tup xs] => some (.lst xs)
  | _ => none
theorem rc_list : RcM K bx (fun xs H Q => ∃ p ys, xs = [.ref p] ∧ (SqL K H p ys ∨ SqT K H p ys) ∧ ∀ l, H l = none → Q (.ref l) (upd H l (.lst ys))) fList := by
  intro Hf H ds d vs hi b r e Q q
  match ds, e, r with
  | [.lst xs], e, r =>
    cases e
    obtain ⟨v, rfl, r1⟩ := r.one
    obtain ⟨p, vs, rfl, h1, r2⟩ := r1.lst hi
    exact ⟨p, vs, rfl, .inl (.of h1), fun o ho => rv_lst hi b r2 ho q⟩
  | [.tup xs], e, r =>
    cases e
    obtain ⟨v, rfl, r1⟩ := r.one
    obtain ⟨p, vs, rfl, h1, r2⟩ := r1.tup
    exact ⟨p, vs, rfl, .inr (ex_t hi h1), fun o ho => rv_lst hi b r2 ho q⟩
def fTuple : List D → Option D
  | [.lst xs] => some (.tup xs)
  | [.tup xs] => some (.tup xs)
  | _ => none
theorem rc_tuple : RcM K bx (fun xs H Q => ∃ p ys, xs = [.ref p] ∧ ((SqL K H p ys ∧ ∀ l, H l = none → Q (.ref l) (upd H l (.tup ys))) ∨ (SqT K H p ys ∧ Q (.ref p) H))) fTuple := by
  intro Hf H ds d vs hi b r e Q q
  match ds, e, r with
  | [.lst xs], e, r =>
    cases e
    obtain ⟨v, rfl, r1⟩ := r.one
    obtain ⟨p, vs, rfl, h1, r2⟩ := r1.lst hi
    exact ⟨p, vs, rfl, .inl ⟨.of h1, fun o ho => rv_tup hi b r2 ho q⟩⟩
  | [.tup xs], e, r =>
    cases e
    obtain ⟨v, rfl, r1⟩ := r.one
    obtain ⟨p, vs, rfl, h1, r2⟩ := r1.tup
    exact ⟨p, vs, rfl, .inr ⟨ex_t hi h1, rv_now hi b (.tup h1 r2) q⟩⟩

/-! ### isinstance -/
inductive Ty5 where
  | tInt | tBool | tStr | tTuple | tList
def Ty5.nm : Ty5 → String
  | .tInt => "int" | .tBool => "bool" | .tStr => "str" | .tTuple => "tuple" | .tList => "list"
def isi5 : Ty5 → D → Option Bool
  | _, .fn _ => none
  | .tInt, .int _ => some true
  | .tInt, .bl _ => some true
  | .tBool, .bl _ => some true
  | .tStr, .str _ => some true
  | .tTuple, .tup _ => some true
  | .tList, .lst _ => some true
  | _, _ => some false
theorem isi_of {Hf H : Hp} {d : D} {v : V} {T : Ty5} {k : Bool} (hi : Ex Hf H) (r : Rq K bx Hf H d v) (e : isi5 T d = some k) : ∃ t, TyX K H v t ∧ PySem.W.kitOne K t (.type T.nm) = some k := by
  cases d with
  | non => obtain rfl := r.non; refine ⟨_, .base .non, ?_⟩; cases T <;> (cases e; exact kit_ty (by decide +kernel))
  | bl b => obtain rfl := r.bl; refine ⟨_, .base (.bl _), ?_⟩; cases T <;> (cases e; exact kit_ty (by decide +kernel))
  | int b => obtain rfl := r.int; refine ⟨_, .base (.int _), ?_⟩; cases T <;> (cases e; exact kit_ty (by decide +kernel))
  | str b => obtain rfl := r.str; refine ⟨_, .base (.str _), ?_⟩; cases T <;> (cases e; exact kit_ty (by decide +kernel))
  | lst xs =>
    obtain ⟨p, vs, rfl, h1, r2⟩ := r.lst hi
    refine ⟨_, .base (.lst h1), ?_⟩
    cases T <;> (cases e; exact kit_ty (by decide +kernel))
  | tup xs =>
    obtain ⟨p, vs, rfl, h1, r2⟩ := r.tup
    have : TyX K H (.ref p) (.type "tuple") := by
      rcases ex_t hi h1 with (h | ⟨o, h⟩) | ⟨o, its, n, h, c, _⟩
      · exact .base (.tup h)
      · exact .fTuple h
      · exact .kTuple h c
    refine ⟨_, this, ?_⟩
    cases T <;> (cases e; exact kit_ty (by decide +kernel))
  | dct ks ds =>
    obtain ⟨p, vs, rfl, h1, r2⟩ := r.dct hi
    refine ⟨_, .base (.dK h1), ?_⟩
    cases T <;> (cases e; exact kit_ty (by decide +kernel))
  | fn a => cases T <;> cases e
end
section
variable {M : Type → Type} [WPM M] {X : Cx} {bx : Bx} {e a b c : Expr} {es rest : List Expr} {ma mb mc me : En → M D} {mt mu : En → M Bool} {pos : Pos} {mr : En → M (List D)} {ms : En → M (List Sl)}
def mIsi (T : Ty5) (ma : En → M D) : En → M D := fun E => ma E >>= fun x => lift (isi5 T x) >>= fun k => pure (.bl k)
theorem pm_isi (T : Ty5) {x y : Str} {p p2 : Pos} (hg : Gl X x) (hm : X.mg x = none) (hv : bootBuiltins x = some (.builtin "isinstance")) (hg2 : Gl X y) (hm2 : X.mg y = none) (hv2 : bootBuiltins y = some (.type T.nm)) (ha : BM X bx a ma)
    (h0 : starEach (a :: [.Name y p2]) X.env = (false, eval a X.env) :: starEach [.Name y p2] X.env := by rfl) (h2 : ((backTo pos (starEach [.Name y p2] X.env)).any fun x => x.fst) = false := by rfl)
    (hn : x ≠ "__name__" := by decide) (hdb : (x == ("__debug__" : Str)) = false := by decide) (hn2 : y ≠ "__name__" := by decide) (hdb2 : (y == ("__debug__" : Str)) = false := by decide) (h1 : starEach [.Name y p2] X.env = (false, eval (.Name y p2) X.env) :: starEach [] X.env := by rfl) :
    PM X bx (.Call (.Name x p) [a, .Name y p2] [] pos) (mIsi T ma) := by
  obtain ⟨ta, a1, a2⟩ := ha.ex
  refine ⟨_, pe_callB call_isi hg hm hv (pa_cons a1 (pa_cons (pe_bltn (v := .ty T.nm) hg2 hm2 hv2 rfl hn2 hdb2) pa_nil h1) h0) hn hdb h0 h2, fun {Hf0 H0 E σ Hf H} I {P} w Q q => ?_⟩
  refine a2 I (wp_bind w) _ fun d v Hf2 H2 w2 s2 o2 r2 => ?_
  obtain ⟨k, ek, w3⟩ := wp_lift (wp_bind w2)
  obtain ⟨t, t1, t2⟩ := isi_of s2.i r2 ek
  exact ⟨v, .ty T.nm, t, .type T.nm, k, rfl, .ty _, t1, t2, q _ _ Hf2 H2 (wp_pure w3) s2 o2 (.bl _)⟩

/-! ### what is walked -/
/-- at each turn the next item, whatever else has come to be -/
def ItOk (K : PySem.W.Frag) (bx : Bx) (J : It) (ds : List D) (Hf : Hp) : Prop := Walk J ds.length (fun H => ∃ Hf', Ex Hf Hf' ∧ Ex Hf' H) fun i H x H' => ∀ Hf', Ex Hf Hf' → Ex Hf' H → ∃ Hf'' d, Step (isB bx) Hf' H Hf'' H' ∧ (BoxOk bx Hf' H → BoxOk bx Hf'' H') ∧ ds[i]? = some d ∧ Rp K Hf'' d x
def IvM (K : PySem.W.Frag) (bx : Bx) (wi : TI) (me : En → M (List D)) : Prop := ∀ {Hf0 H0 : Hp} {E : En} {σ : L2.St} {Hf H : Hp}, EnvOk K bx Hf0 H0 E σ Hf H → ∀ {P : List D → Prop}, wp (me E) P →
  ∀ R : It → Hp → Prop, (∀ ds J Hf2 H2, P ds → Step (isB bx) Hf H Hf2 H2 → BoxOk bx Hf2 H2 → ItOk K bx J ds Hf2 → R J H2) → wi σ H R
structure IM (X : Cx) (bx : Bx) (tg iter : Expr) (me : En → M (List D)) : Prop where
  ex : ∃ wi, PI X tg iter wi ∧ IvM X.K bx wi me
theorem it_list {K : PySem.W.Frag} {Hf : Hp} {p : Addr} {ds : List D} {vs : List V} (h : Hf p = some (.lst vs)) (r : RpL K Hf ds vs) : ItOk K bx (Itl K p) ds Hf := by
  unfold ItOk
  rw [r.length]
  refine (walk_list (K := K) (a := p) (xs := vs)).mono (fun H ⟨Hf', e1, e2⟩ => .of (e2 _ _ (e1 _ _ h))) fun i H x H' hi _ y => ?_
  obtain ⟨rfl, y⟩ := y
  intro Hf' e1 e2
  obtain ⟨d, h1, h2⟩ := r.get y
  exact ⟨Hf', d, .refl e2, id, h1, h2.mono e1⟩
theorem it_tup {K : PySem.W.Frag} {Hf : Hp} {p : Addr} {ds : List D} {vs : List V} (h : SqT K Hf p vs) (r : RpL K Hf ds vs) : ItOk K bx (Itt K p) ds Hf := by
  unfold ItOk
  rw [r.length]
  refine (walk_tup (K := K) (a := p) (xs := vs)).mono (fun H ⟨Hf', e1, e2⟩ => ex_t (e1.trans e2) h) fun i H x H' hi _ y => ?_
  obtain ⟨rfl, y⟩ := y
  intro Hf' e1 e2
  obtain ⟨d, h1, h2⟩ := r.get y
  exact ⟨Hf', d, .refl e2, id, h1, h2.mono e1⟩
def signsD (z : Str) : List D := z.cps.toList.map fun c => .str ⟨#[c]⟩
theorem it_str {K : PySem.W.Frag} {Hf : Hp} {z : Str} : ItOk K bx (Its z) (signsD z) Hf := by
  unfold ItOk
  rw [show (signsD z).length = z.cps.size by simp [signsD]]
  refine (walk_str (z := z)).mono (fun _ _ => trivial) fun i H x H' hi _ y => ?_
  obtain ⟨rfl, c, e, rfl⟩ := y
  intro Hf' e1 e2
  refine ⟨Hf', .str ⟨#[c]⟩, .refl e2, id, ?_, .str _⟩
  unfold signsD
  rw [List.getElem?_map, Array.getElem?_toList, e]; rfl
/-- a list, a tuple, a text -/
def iSeq (K : PySem.W.Frag) (tl : TE) : TI := fun σ H R => tl σ H fun x H1 => (∃ a xs, x = .ref a ∧ SqL K H1 a xs ∧ R (Itl K a) H1) ∨ (∃ a xs, x = .ref a ∧ SqT K H1 a xs ∧ R (Itt K a) H1) ∨ ∃ z, x = .str z ∧ R (Its z) H1
theorem pi_seq {tg l : Expr} {tl : TE} (hl : PE X l tl) : PI X tg l (iSeq X.K tl) := by
  refine ⟨fun pins s σ H R I h => ?_⟩
  refine thn (hl.run pins s σ H _ I h) fun v s1 ⟨x, H1, I1, r1, q1⟩ => ?_
  rcases q1 with ⟨a, xs, e, hq, q⟩ | ⟨a, xs, e, hq, q⟩ | ⟨z, e, q⟩
  · subst e
    cases r1
    obtain ⟨its, rv, p, hz⟩ := I1.list hq
    refine wpAny_pyIter_list p.isList ?_
    refine ⟨s1.heap.objs.size, [s1.heap.objs.size], _, _, H1, rfl, I1.kept (t' := s1.toks) fun b o e => Heap.get?_push_of_some _ e, turn_list a _, ⟨_, Heap.get?_push_size _ rfl, rfl, rfl⟩, fun b hb => ?_, q⟩
    have e : b = s1.heap.objs.size := by simpa using hb
    subst e
    exact I1.fpOk (Nat.le_refl _) (I1.hok.fresh (Nat.le_refl _))
  · subst e
    cases r1
    obtain ⟨its, rv, p, hz⟩ := I1.tuple hq
    refine wpAny_pyIter_tuple (show s1.heap.IsTuple a its.toArray from p) ?_
    refine ⟨s1.heap.objs.size, [s1.heap.objs.size], _, _, H1, rfl, I1.kept (t' := s1.toks) fun b o e => Heap.get?_push_of_some _ e, turn_tuple a _, ⟨_, Heap.get?_push_size _ rfl, rfl, rfl⟩, fun b hb => ?_, q⟩
    have e : b = s1.heap.objs.size := by simpa using hb
    subst e
    exact I1.fpOk (Nat.le_refl _) (I1.hok.fresh (Nat.le_refl _))
  · subst e
    obtain ⟨t, rfl⟩ := r1
    cases ha : z.cps.all (· < 128)
    · exact wpAny_pyIter_wide ha (pi_one (tk := s1.toks) I1 _ (turn_str _ z t "str_iterator" (.inr rfl)) ⟨_, Heap.get?_push_size _ rfl, rfl, rfl⟩ q)
    · exact wpAny_pyIter_ascii ha (pi_one (tk := s1.toks) I1 _ (turn_str _ z t "str_ascii_iterator" (.inl rfl)) ⟨_, Heap.get?_push_size _ rfl, rfl, rfl⟩ q)
def D.items : D → Option (List D)
  | .lst xs => some xs
  | .tup xs => some xs
  | .str z => some (signsD z)
  | _ => none
def mItems (ma : En → M D) : En → M (List D) := fun E => ma E >>= fun x => lift x.items
theorem im_seq {tg : Expr} (ha : PM X bx a ma) : IM X bx tg a (mItems ma) := by
  obtain ⟨ta, a1, a2⟩ := ha.ex
  refine ⟨_, pi_seq a1, fun {Hf0 H0 E σ Hf H} I {P} w R q => ?_⟩
  refine a2 I (wp_bind w) _ fun d v Hf2 H2 w2 s2 o2 r2 => ?_
  obtain ⟨ds, ek, p⟩ := wp_lift w2
  cases d with
  | lst xs =>
    cases ek
    cases r2 with
    | lst h r => exact .inl ⟨_, _, rfl, .of (s2.i _ _ h), q _ _ Hf2 H2 p s2 o2 (it_list h r)⟩
  | tup xs =>
    cases ek
    cases r2 with
    | tup h r => exact .inr (.inl ⟨_, _, rfl, ex_t s2.i h, q _ _ Hf2 H2 p s2 o2 (it_tup h r)⟩)
  | str z =>
    cases ek
    cases r2
    exact .inr (.inr ⟨z, rfl, q _ _ Hf2 H2 p s2 o2 it_str⟩)
  | _ => cases ek
def rngD (lo : Int) (n : Nat) : List D := (List.range n).map fun (i : Nat) => D.int (lo + (i : Int))
theorem it_rng {K : PySem.W.Frag} {Hf : Hp} {lo : Int} {n : Nat} : ItOk K bx (Itr lo n) (rngD lo n) Hf := by
  unfold ItOk
  rw [show (rngD lo n).length = n by simp [rngD]]
  refine (walk_range (lo := lo) (n := n)).mono (fun _ _ => trivial) fun i H x H' hi _ y => ?_
  obtain ⟨rfl, rfl⟩ := y
  intro Hf' e1 e2
  refine ⟨Hf', .int (lo + i), .refl e2, id, ?_, .int _⟩
  unfold rngD
  rw [List.getElem?_map, List.getElem?_range hi]; rfl
def rng1 : List D → Option (List D)
  | [.int j] => if -(2 ^ 62) ≤ j ∧ j < 2 ^ 62 then some (rngD 0 j.toNat) else none
  | _ => none
def rng2 : List D → Option (List D)
  | [.int i, .int j] => if -(2 ^ 62) ≤ i ∧ i < 2 ^ 62 ∧ -(2 ^ 62) ≤ j ∧ j < 2 ^ 62 then some (rngD i (j - i).toNat) else none
  | _ => none
def mRng (f : List D → Option (List D)) (mr : En → M (List D)) : En → M (List D) := fun E => mr E >>= fun ds => lift (f ds)
theorem im_range1 {tg : Expr} {p : Pos} (hg : Gl X "range") (hm : X.mg "range" = none) (ha : AM X bx [a] mr) (hs : starEach [a] X.env = [(false, eval a X.env)] := by rfl) : IM X bx tg (.Call (.Name "range" p) [a] [] pos) (mRng rng1 mr) := by
  obtain ⟨ta, a1, a2⟩ := ha.ex
  refine ⟨_, pi_range1 hg hm a1 hs, fun {Hf0 H0 E σ Hf H} I {P} w R q => ?_⟩
  refine a2 I (wp_bind w) _ fun ds vs Hf2 H2 w2 s2 o2 r2 => ?_
  obtain ⟨its, ek, p⟩ := wp_lift w2
  match ds, ek, r2 with
  | [.int j], ek, r2 =>
    obtain ⟨v, rfl, r3⟩ := r2.one
    obtain rfl := r3.int
    replace ek : (if -(2 ^ 62) ≤ j ∧ j < 2 ^ 62 then some (rngD 0 j.toNat) else none) = some its := ek
    split at ek
    · cases ek
      rename_i hj
      exact ⟨j, rfl, hj.1, hj.2, q _ _ Hf2 H2 p s2 o2 it_rng⟩
    · cases ek
theorem im_range2 {tg : Expr} {p : Pos} (hg : Gl X "range") (hm : X.mg "range" = none) (ha : AM X bx [a, b] mr) (hs : starEach [a, b] X.env = [(false, eval a X.env), (false, eval b X.env)] := by rfl) (hs2 : starEach [b] X.env = [(false, eval b X.env)] := by rfl) :
    IM X bx tg (.Call (.Name "range" p) [a, b] [] pos) (mRng rng2 mr) := by
  obtain ⟨ta, a1, a2⟩ := ha.ex
  refine ⟨_, pi_range2 hg hm a1 hs hs2, fun {Hf0 H0 E σ Hf H} I {P} w R q => ?_⟩
  refine a2 I (wp_bind w) _ fun ds vs Hf2 H2 w2 s2 o2 r2 => ?_
  obtain ⟨its, ek, p⟩ := wp_lift w2
  match ds, ek, r2 with
  | [.int i, .int j], ek, .cons r3 (.cons r4 .nil) =>
    obtain rfl := r3.int
    obtain rfl := r4.int
    replace ek : (if -(2 ^ 62) ≤ i ∧ i < 2 ^ 62 ∧ -(2 ^ 62) ≤ j ∧ j < 2 ^ 62 then some (rngD i (j - i).toNat) else none) = some its := ek
    split at ek
    · cases ek
      rename_i hj
      exact ⟨i, j, rfl, hj, q _ _ Hf2 H2 p s2 o2 it_rng⟩
    · cases ek
end
end Fm
set_option Elab.async false
set_option linter.all false
set_option maxRecDepth 100000
set_option maxHeartbeats 2000000
set_option autoImplicit false
namespace Fm
open PySem PySem.Spec PyProof.Rows L2
open Evl (Ex ex_l ex_t ex_rd)
open WPM
/-! ### one term for all contexts -/
section
variable {M : Type → Type} [WPM M]
def cE (K : PySem.W.Frag) (bx : Bx) (me : En → M D) : TE := fun σ H Q => ∃ (Hf0 H0 : Hp) (E : En) (Hf : Hp) (P : D → Prop), EnvOk K bx Hf0 H0 E σ Hf H ∧ wp (me E) P ∧ ∀ d v Hf2 H2, P d → Step (isB bx) Hf H Hf2 H2 → BoxOk bx Hf2 H2 → Rp K Hf2 d v → Q v H2
def cT (K : PySem.W.Frag) (bx : Bx) (me : En → M Bool) : TT := fun σ H Q => ∃ (Hf0 H0 : Hp) (E : En) (Hf : Hp) (P : Bool → Prop), EnvOk K bx Hf0 H0 E σ Hf H ∧ wp (me E) P ∧ ∀ b Hf2 H2, P b → Step (isB bx) Hf H Hf2 H2 → BoxOk bx Hf2 H2 → Q b H2
def cI (K : PySem.W.Frag) (bx : Bx) (me : En → M (List D)) : TI := fun σ H R => ∃ (Hf0 H0 : Hp) (E : En) (Hf : Hp) (P : List D → Prop), EnvOk K bx Hf0 H0 E σ Hf H ∧ wp (me E) P ∧ ∀ ds J Hf2 H2, P ds → Step (isB bx) Hf H Hf2 H2 → BoxOk bx Hf2 H2 → ItOk K bx J ds Hf2 → R J H2
variable {X : Cx} {bx : Bx} {e a b c : Expr} {es : List Expr} {ma mb mc me : En → M D} {mt : En → M Bool} {pos : Pos}
theorem PM.can (h : PM X bx e me) : PE X e (cE X.K bx me) := by
  obtain ⟨te, h1, h2⟩ := h.ex
  refine ⟨fun pins s σ H Q I q => h1.run pins s σ H Q I ?_⟩
  obtain ⟨Hf0, H0, E, Hf, P, z, w, q⟩ := q
  exact h2 z w Q q
theorem TM.can (h : TM X bx e mt) : PT X e (cT X.K bx mt) := by
  obtain ⟨te, h1, h2⟩ := h.ex
  refine ⟨fun pins s σ H Q I q => h1.run pins s σ H Q I ?_⟩
  obtain ⟨Hf0, H0, E, Hf, P, z, w, q⟩ := q
  exact h2 z w Q q
theorem IM.can {tg : Expr} {mi : En → M (List D)} (h : IM X bx tg e mi) : PI X tg e (cI X.K bx mi) := by
  obtain ⟨te, h1, h2⟩ := h.ex
  refine ⟨fun pins s σ H Q I q => h1.run pins s σ H Q I ?_⟩
  obtain ⟨Hf0, H0, E, Hf, P, z, w, q⟩ := q
  exact h2 z w Q q
theorem cE_of {K : PySem.W.Frag} : EvM K bx (cE K bx me) me := fun {_ _ _ _ _ _} I {P} w Q q => ⟨_, _, _, _, P, I, w, q⟩
theorem cT_of {K : PySem.W.Frag} : TvM K bx (cT K bx mt) mt := fun {_ _ _ _ _ _} I {P} w Q q => ⟨_, _, _, _, P, I, w, q⟩
theorem cI_of {K : PySem.W.Frag} {mi : En → M (List D)} : IvM K bx (cI K bx mi) mi := fun {_ _ _ _ _ _} I {P} w Q q => ⟨_, _, _, _, P, I, w, q⟩

/-! ### tests of a comprehension -/
structure TsM (X : Cx) (bx : Bx) (ifs : List Expr) (mt : En → M Bool) : Prop where
  ex : PTs X ifs (cT X.K bx mt)
theorem ts_nil : TsM X bx [] (fun _ => pure true : En → M Bool) := by
  refine ⟨⟨fun pins s σ H Q I h => ?_⟩⟩
  obtain ⟨Hf0, H0, E, Hf, P, z, w, q⟩ := h
  exact pts_nil.run pins s σ H Q I (q true Hf H (wp_pure w) (.refl z.st.i) z.box)
theorem ts_one (h : TM X bx c mt) : TsM X bx [c] mt := ⟨pts_one h.can⟩
end

/-! ### where values go -/
theorem EnvOk.set {K : PySem.W.Frag} {bx : Bx} {Hf0 H0 Hf H : Hp} {E : En} {σ : L2.St} {i : Nat} {d : D} {v : V} (h : EnvOk K bx Hf0 H0 E σ Hf H) (r : Rp K Hf d v) (hi : i < E.length) : EnvOk K bx Hf0 H0 (E.set i (.sh d)) (σ.set i (some v)) Hf H := by
  have hs : i < σ.length := by rw [h.len]; exact hi
  refine ⟨h.st, h.box, h.b0, by rw [List.length_set, List.length_set, h.len], fun j s e => ?_, fun j k s t p n e1 e2 o1 o2 v1 v2 => ?_⟩
  · by_cases q : i = j
    · subst q
      rw [List.getElem?_set_self hi] at e
      cases e
      rw [List.getElem?_set_self hs]
      exact ⟨v, rfl, r⟩
    · rw [List.getElem?_set_ne q] at e
      rw [List.getElem?_set_ne q]
      exact h.sl j s e
  · by_cases q : i = j
    · subst q
      rw [List.getElem?_set_self hi] at e1
      cases e1
      exact o1.elim
    · by_cases q2 : i = k
      · subst q2
        rw [List.getElem?_set_self hi] at e2
        cases e2
        exact o2.elim
      · rw [List.getElem?_set_ne q] at e1 v1
        rw [List.getElem?_set_ne q2] at e2 v2
        exact h.dj j k s t p n e1 e2 o1 o2 v1 v2
theorem wipe_get (σ : L2.St) : ∀ (vs : List Nat) (j : Nat), (wipe σ vs)[j]? = if j ∈ vs then σ[j]?.map (fun _ => none) else σ[j]?
  | [], j => by simp [wipe]
  | v :: vs, j => by
    unfold wipe
    by_cases q : v = j
    · subst q
      by_cases hv : v < (wipe σ vs).length
      · rw [List.getElem?_set_self hv, if_pos List.mem_cons_self]
        rw [wipe_length] at hv
        simp [hv]
      · rw [List.getElem?_eq_none (by simpa using hv), if_pos List.mem_cons_self]
        rw [wipe_length] at hv
        rw [List.getElem?_eq_none (by omega)]
        rfl
    · rw [List.getElem?_set_ne q, wipe_get σ vs j]
      have : (j ∈ v :: vs) ↔ j ∈ vs := by simp [Ne.symm q]
      simp [this]
theorem wipe_set {σ : L2.St} {vs : List Nat} {i : Nat} {o : Option V} (hi : i ∈ vs) : wipe (σ.set i o) vs = wipe σ vs := by
  refine List.ext_getElem? fun j => ?_
  rw [wipe_get, wipe_get]
  by_cases q : i = j
  · subst q
    rw [if_pos hi, if_pos hi]
    by_cases hv : i < σ.length
    · rw [List.getElem?_set_self hv]; simp [hv]
    · rw [List.getElem?_eq_none (by simpa using hv), List.getElem?_eq_none (by omega)]
  · rw [List.getElem?_set_ne q]
theorem wipe_idem {σ : L2.St} {vs : List Nat} : wipe (wipe σ vs) vs = wipe σ vs := by
  refine List.ext_getElem? fun j => ?_
  rw [wipe_get, wipe_get]
  by_cases q : j ∈ vs
  · simp only [if_pos q]; cases σ[j]? <;> rfl
  · simp only [if_neg q]
/-- of slots: forgotten -/
def wipeE (E : En) : List Nat → En
  | [] => E
  | v :: vs => (wipeE E vs).set v .un
theorem wipeE_length (E : En) : ∀ vs : List Nat, (wipeE E vs).length = E.length
  | [] => rfl
  | v :: vs => by unfold wipeE; rw [List.length_set, wipeE_length E vs]
theorem EnvOk.wipe1 {K : PySem.W.Frag} {bx : Bx} {Hf0 H0 Hf H : Hp} {E : En} {σ : L2.St} {i : Nat} {o : Option V} (h : EnvOk K bx Hf0 H0 E σ Hf H) : EnvOk K bx Hf0 H0 (E.set i .un) (σ.set i o) Hf H := by
  refine ⟨h.st, h.box, h.b0, by rw [List.length_set, List.length_set, h.len], fun j s e => ?_, fun j k s t p n e1 e2 o1 o2 v1 v2 => ?_⟩
  · by_cases q : i = j
    · subst q
      by_cases hi : i < E.length
      · rw [List.getElem?_set_self hi] at e
        cases e
        trivial
      · rw [List.getElem?_eq_none (by simpa using hi)] at e
        cases e
    · rw [List.getElem?_set_ne q] at e
      rw [List.getElem?_set_ne q]
      exact h.sl j s e
  · by_cases q : i = j
    · subst q
      by_cases hi : i < E.length
      · rw [List.getElem?_set_self hi] at e1
        cases e1
        exact o1.elim
      · rw [List.getElem?_eq_none (by simpa using hi)] at e1
        cases e1
    · by_cases q2 : i = k
      · subst q2
        by_cases hi : i < E.length
        · rw [List.getElem?_set_self hi] at e2
          cases e2
          exact o2.elim
        · rw [List.getElem?_eq_none (by simpa using hi)] at e2
          cases e2
      · rw [List.getElem?_set_ne q] at e1 v1
        rw [List.getElem?_set_ne q2] at e2 v2
        exact h.dj j k s t p n e1 e2 o1 o2 v1 v2
theorem EnvOk.wipe {K : PySem.W.Frag} {bx : Bx} {Hf0 H0 Hf H : Hp} {E : En} {σ : L2.St} (h : EnvOk K bx Hf0 H0 E σ Hf H) : ∀ vs : List Nat, EnvOk K bx Hf0 H0 (wipeE E vs) (L2.wipe σ vs) Hf H
  | [] => h
  | v :: vs => (h.wipe vs).wipe1
def GvM (K : PySem.W.Frag) (bx : Bx) (g : TG) (f : D → En → Option En) (js : List Nat) : Prop := ∀ {Hf0 H0 : Hp} {E E' : En} {σ : L2.St} {Hf H : Hp} {d : D} {v : V}, EnvOk K bx Hf0 H0 E σ Hf H → Rp K Hf d v → f d E = some E' →
  ∀ Q : L2.St → Hp → Prop, (∀ σ', EnvOk K bx Hf0 H0 E' σ' Hf H → (∀ vs, (∀ j ∈ js, j ∈ vs) → L2.wipe σ' vs = L2.wipe σ vs) → (∀ Hf' H', Ex Hf Hf' → EnvOk K bx Hf0 H0 E σ Hf' H' → EnvOk K bx Hf0 H0 E' σ' Hf' H') → Q σ' H) → g v σ H Q
def GsvM (K : PySem.W.Frag) (bx : Bx) (g : TGs) (f : List D → En → Option En) (js : List Nat) : Prop := ∀ {Hf0 H0 : Hp} {E E' : En} {σ : L2.St} {Hf H : Hp} {d : List D} {v : List V}, EnvOk K bx Hf0 H0 E σ Hf H → RpL K Hf d v → f d E = some E' →
  ∀ Q : L2.St → Hp → Prop, (∀ σ', EnvOk K bx Hf0 H0 E' σ' Hf H → (∀ vs, (∀ j ∈ js, j ∈ vs) → L2.wipe σ' vs = L2.wipe σ vs) → (∀ Hf' H', Ex Hf Hf' → EnvOk K bx Hf0 H0 E σ Hf' H' → EnvOk K bx Hf0 H0 E' σ' Hf' H') → Q σ' H) → g v σ H Q
structure GM (X : Cx) (bx : Bx) (tg : Expr) (f : D → En → Option En) (js : List Nat) : Prop where
  ex : ∃ g, PG X tg g ∧ GvM X.K bx g f js
structure GsM (X : Cx) (bx : Bx) (tg : List Expr) (f : List D → En → Option En) (js : List Nat) : Prop where
  ex : ∃ g, PGs X tg g ∧ GsvM X.K bx g f js
section
variable {X : Cx} {bx : Bx} {e : Expr} {es : List Expr} {pos : Pos} {f : D → En → Option En} {fs : List D → En → Option En} {js ks : List Nat}
def fName (i : Nat) : D → En → Option En := fun d E => if i < E.length then some (E.set i (.sh d)) else none
theorem gm_name (i : Nat) {x : Str} (hN : X.N.Nodup) (hi : X.N[i]? = some x) (hx : Loc X.env.scope x) (hf : X.fn x = true ∨ X.env.scope.names.lookup x = some .local := by first | exact .inl rfl | exact .inr rfl | assumption) : GM X bx (.Name x pos) (fName i) [i] := by
  refine ⟨_, pg_name hN hi hx hf, fun {Hf0 H0 E E' σ Hf H d v} I r e Q q => ?_⟩
  unfold fName at e
  split at e
  · cases e
    exact q _ (I.set r (by assumption)) (fun vs h => wipe_set (h i (by simp))) fun Hf' H' x I' => I'.set (r.mono x) (by assumption)
  · cases e
def fsNil : List D → En → Option En
  | [], E => some E
  | _, _ => none
def fsCons (f : D → En → Option En) (fs : List D → En → Option En) : List D → En → Option En
  | d :: r, E => (f d E).bind fun E' => fs r E'
  | _, _ => none
theorem gsm_nil : GsM X bx [] fsNil [] := by
  refine ⟨_, pgs_nil, fun {Hf0 H0 E E' σ Hf H d v} I r e Q q => ?_⟩
  cases r with
  | nil => cases e; exact ⟨rfl, q _ I (fun _ _ => rfl) fun _ _ _ z => z⟩
  | cons _ _ => cases e
theorem gsm_cons (h1 : GM X bx e f js) (h2 : GsM X bx es fs ks) (hs : (assignEach (e :: es) X.env).map (·.2) = assign e X.env :: (assignEach es X.env).map (·.2) := by rfl) : GsM X bx (e :: es) (fsCons f fs) (js ++ ks) := by
  obtain ⟨g, g1, g2⟩ := h1.ex
  obtain ⟨u, u1, u2⟩ := h2.ex
  refine ⟨_, pgs_cons g1 u1 hs, fun {Hf0 H0 E E' σ Hf H d v} I r e Q q => ?_⟩
  cases r with
  | nil => cases e
  | @cons d ds v vs h r =>
    replace e : ((f d E).bind fun E' => fs ds E') = some E' := e
    cases e1 : f d E with
    | none => rw [e1] at e; cases e
    | some E1 =>
      rw [e1] at e
      refine ⟨v, vs, rfl, g2 I h e1 _ fun σ1 I1 w1 t1 => u2 I1 r e Q fun σ2 I2 w2 t2 => q σ2 I2 (fun ws hw => ?_) fun Hf' H' x I' => t2 Hf' H' x (t1 Hf' H' x I')⟩
      rw [w2 ws fun j hj => hw j (List.mem_append_right _ hj), w1 ws fun j hj => hw j (List.mem_append_left _ hj)]
def fTup (n : Nat) (fs : List D → En → Option En) : D → En → Option En
  | .tup ds, E => if ds.length = n then fs ds E else none
  | _, _ => none
theorem gm_tup {k n : Nat} (hc : X.calm = true) (h : GsM X bx es fs js) (hn : (assignEach es X.env).length = n := by rfl) (hst : (assignEach es X.env).findIdx? (·.1) = none := by rfl) : GM X bx (.Tuple es k pos) (fTup n fs) js := by
  obtain ⟨g, g1, g2⟩ := h.ex
  refine ⟨_, pg_tup hc g1 hn hst, fun {Hf0 H0 E E' σ Hf H d v} I r e Q q => ?_⟩
  cases d with
  | tup ds =>
    replace e : (if ds.length = n then fs ds E else none) = some E' := e
    cases r with
    | tup h r =>
      split at e
      · exact ⟨_, _, rfl, ex_t I.st.i h, by rw [← r.length]; assumption, g2 I r e Q q⟩
      · cases e
  | _ => cases e
def cG (K : PySem.W.Frag) (bx : Bx) (f : D → En → Option En) (js : List Nat) : TG := fun v σ H Q => ∃ (Hf0 H0 : Hp) (E E' : En) (Hf : Hp) (d : D), EnvOk K bx Hf0 H0 E σ Hf H ∧ Rp K Hf d v ∧ f d E = some E' ∧
  ∀ σ', EnvOk K bx Hf0 H0 E' σ' Hf H → (∀ vs, (∀ j ∈ js, j ∈ vs) → L2.wipe σ' vs = L2.wipe σ vs) → (∀ Hf' H', Ex Hf Hf' → EnvOk K bx Hf0 H0 E σ Hf' H' → EnvOk K bx Hf0 H0 E' σ' Hf' H') → Q σ' H
theorem GM.can (h : GM X bx e f js) : PG X e (cG X.K bx f js) := by
  obtain ⟨g, g1, g2⟩ := h.ex
  refine ⟨fun pins s σ H v u Q I r q => g1.run pins s σ H v u Q I r ?_⟩
  obtain ⟨Hf0, H0, E, E', Hf, d, a, b, c, q⟩ := q
  exact g2 a b c Q q
end

/-! ### list comprehensions -/
section
variable {M : Type → Type} [WPM M]
def compL (f : D → En → Option En) (mt : En → M Bool) (me : En → M D) (E : En) : List D → List D → M (List D)
  | [], acc => pure acc
  | d :: ds, acc => lift (f d E) >>= fun E2 => mt E2 >>= fun b => if b then me E2 >>= fun y => compL f mt me E ds (acc ++ [y]) else compL f mt me E ds acc
def mCompL (mi : En → M (List D)) (ws : List Nat) (f : D → En → Option En) (mt : En → M Bool) (me : En → M D) : En → M (List D) := fun E => mi E >>= fun ds => if ds.length ≤ sizeLine then compL f mt me (wipeE E ws) ds [] else fail
def mComp (mi : En → M (List D)) (ws : List Nat) (f : D → En → Option En) (mt : En → M Bool) (me : En → M D) : En → M D := fun E => mCompL mi ws f mt me E >>= fun acc => pure (.lst acc)
/-- one thing of one's own is from now on as it is -/
theorem Step.frz {B : Addr → Prop} {Hf H Hf2 H2 : Hp} {p : Addr} {o : HO} (s : Step B Hf H Hf2 H2) (h0 : H p = none) (h1 : Hf2 p = none) (h2 : H2 p = some o) : Step B Hf H (upd Hf2 p o) H2 := by
  refine ⟨s.f.trans (Ex.new h1), fun a u e => ?_, fun a e n => ?_, s.k, s.l⟩
  · unfold upd at e
    by_cases q : a = p
    · rw [if_pos q] at e; cases e; rw [q]; exact h2
    · rw [if_neg q] at e; exact s.i a u e
  · have : a ≠ p := fun z => n (by rw [z]; exact h0)
    rw [upd_ne this]; exact s.n a e n
theorem BoxOk.frz {bx : Bx} {Hf H : Hp} {p : Addr} {o : HO} (h : BoxOk bx Hf H) (hp : ¬ isB bx p) : BoxOk bx (L2.upd Hf p o) H := by
  cases bx with
  | none => trivial
  | some q =>
    obtain ⟨b, c⟩ := q
    obtain ⟨h1, h2, h3, r⟩ := h
    have nb : b ≠ p := fun e => hp (.inl e.symm)
    have nc : c ≠ p := fun e => hp (.inr e.symm)
    exact ⟨h1, by rw [upd_ne nb]; exact h2, by rw [upd_ne nc]; exact h3, r⟩
/-- one thing that is not yet to stay changes -/
theorem Step.put {B : Addr → Prop} {Hf H Hf2 H2 : Hp} {p : Addr} {o : HO} (s : Step B Hf H Hf2 H2) (h0 : H p = none) (h1 : Hf2 p = none) : Step B Hf H Hf2 (upd H2 p o) := by
  refine ⟨s.f, fun a u e => ?_, s.n, fun a u nb e => ?_, fun a n => ?_⟩
  · have : a ≠ p := fun z => by rw [z, h1] at e; cases e
    rw [upd_ne this]; exact s.i a u e
  · have : a ≠ p := fun z => by rw [z, h0] at e; cases e
    rw [upd_ne this]; exact s.k a u nb e
  · have : a ≠ p := fun z => n (by rw [z]; exact h0)
    rw [upd_ne this]; exact s.l a n
/-- where a comprehension stands -/
structure CI (K : PySem.W.Frag) (bx : Bx) (Hf H : Hp) (D : Addr) (acc : List Fm.D) (Hf' H' : Hp) : Prop where
  st : Step (isB bx) Hf H Hf' H'
  bo : BoxOk bx Hf' H'
  nf : Hf' D = none
  ls : ∃ vs, H' D = some (.lst vs) ∧ RpL K Hf' acc vs
theorem CI.push {K : PySem.W.Frag} {bx : Bx} {Hf H Hf1 H1 Hf2 H2 : Hp} {D : Addr} {acc : List Fm.D} {y : Fm.D} {v : V} (c : CI K bx Hf H D acc Hf1 H1) (hD : H D = none) (nb : ¬ isB bx D) (s : Step (isB bx) Hf1 H1 Hf2 H2) (b : BoxOk bx Hf2 H2) (r : Rp K Hf2 y v) (Pv : Hp → Prop)
    (hl : acc.length < sizeLine) (q : ∀ H3, CI K bx Hf H D (acc ++ [y]) Hf2 H3 → Pv H3) : ∃ vs, H2 D = some (.lst vs) ∧ vs.length < sizeLine ∧ Pv (upd H2 D (.lst (vs ++ [v]))) := by
  obtain ⟨vs, h1, h2⟩ := c.ls
  have n2 : Hf2 D = none := s.n D c.nf (by rw [h1]; simp)
  refine ⟨vs, s.k D _ nb h1, by rw [← h2.length]; exact hl, q _ ⟨(c.st.trans s).put hD n2, b.upd nb, n2, _, upd_same, (h2.mono s.f).append (.one r)⟩⟩
theorem CI.step {K : PySem.W.Frag} {bx : Bx} {Hf H Hf1 H1 Hf2 H2 : Hp} {D : Addr} {acc : List Fm.D} (c : CI K bx Hf H D acc Hf1 H1) (nb : ¬ isB bx D) (s : Step (isB bx) Hf1 H1 Hf2 H2) (b : BoxOk bx Hf2 H2) : CI K bx Hf H D acc Hf2 H2 := by
  obtain ⟨vs, h1, h2⟩ := c.ls
  exact ⟨c.st.trans s, b, s.n D c.nf (by rw [h1]; simp), vs, s.k D _ nb h1, h2.mono s.f⟩
theorem CI.done {K : PySem.W.Frag} {bx : Bx} {Hf H Hf1 H1 : Hp} {D : Addr} {acc : List Fm.D} (c : CI K bx Hf H D acc Hf1 H1) (hD : H D = none) (nb : ¬ isB bx D) : ∃ Hf2, Step (isB bx) Hf H Hf2 H1 ∧ BoxOk bx Hf2 H1 ∧ Rp K Hf2 (.lst acc) (.ref D) := by
  obtain ⟨vs, h1, h2⟩ := c.ls
  exact ⟨_, c.st.frz hD c.nf h1, c.bo.frz nb, .lst upd_same (h2.mono (Ex.new c.nf))⟩
theorem CI.new {K : PySem.W.Frag} {bx : Bx} {Hf H : Hp} {D : Addr} (i : Ex Hf H) (b : BoxOk bx Hf H) (hD : H D = none) (nb : ¬ isB bx D) : CI K bx Hf H D [] Hf (upd H D (.lst [])) :=
  ⟨(Step.refl i).put hD (Evl.fresh_back i hD), b.upd nb, Evl.fresh_back i hD, [], upd_same, .nil⟩
variable {X : Cx} {bx : Bx} {elt tg iter : Expr} {ifs : List Expr} {mi : En → M (List D)} {mt : En → M Bool} {me : En → M D} {f : D → En → Option En} {js : List Nat} {pos : Pos}
theorem comp_ev {K : PySem.W.Frag} {wi : TI} {ws : List Nat} (i2 : IvM K bx wi mi) (hj : ∀ j ∈ js, j ∈ ws) {Hf0 H0 : Hp} {E : En} {σ : L2.St} {Hf H : Hp} (I : EnvOk K bx Hf0 H0 E σ Hf H) {P : List Fm.D → Prop} (w : wp (mCompL mi ws f mt me E) P) (Q : VK)
    (q : ∀ acc D Hf1 H1 Hf2 H2, P acc → Step (isB bx) Hf H Hf1 H1 → H1 D = none → ¬ isB bx D → CI K bx Hf1 H1 D acc Hf2 H2 → Q (.ref D) H2) : tLc wi (cG K bx f js) (cT K bx mt) (cE K bx me) ws σ H Q := by
  refine i2 I (wp_bind w) _ fun ds J Hf1 H1 w1 s1 b1 it => ?_
  intro D hD
  have nb : ¬ isB bx D := fun z => (I.step s1 b1).st.l D (I.b0 D z) hD
  have I1 := (I.step s1 b1).wipe ws
  split at w1
  case isFalse => exact absurd w1 wp_fail
  case isTrue hlen =>
  refine lc_it it (fun i H => ∃ Hf' acc, CI K bx Hf1 H1 D acc Hf' H ∧ acc.length ≤ i ∧ wp (compL f mt me (wipeE E ws) (ds.drop i) acc) P)
    ⟨Hf1, [], .new s1.i b1 hD nb, Nat.zero_le _, w1⟩ (fun i H _ ⟨Hf', acc, c, _⟩ => ⟨Hf', c.st.f, c.st.i⟩) (fun i x Ha Hb hin p y => ?_) (fun Hz ⟨Hf', acc, c, _, wz⟩ => ?_)
  · obtain ⟨Hf', acc, c, la, wz⟩ := p
    obtain ⟨Hf2, d, s2, b2, ed, r2⟩ := y Hf' c.st.f c.st.i
    have c2 := c.step nb s2 (b2 c.bo)
    have I2 : EnvOk K bx Hf0 H0 (wipeE E ws) (wipe σ ws) Hf2 Hb := I1.step c2.st c2.bo
    rw [(List.drop_eq_getElem_cons hin).trans (by rw [List.getElem?_eq_getElem hin] at ed; cases ed; rfl : ds[i] :: ds.drop (i + 1) = d :: ds.drop (i + 1))] at wz
    unfold compL at wz
    obtain ⟨E2, e2, wz⟩ := wp_lift (wp_bind wz)
    refine ⟨Hf0, H0, _, E2, Hf2, d, I2, r2, e2, fun σ' I3 hw _ => ⟨?_, ?_⟩⟩
    · exact (hw ws hj).trans wipe_idem
    · refine ⟨Hf0, H0, E2, Hf2, _, I3, wp_bind wz, fun b Hf3 H3 w3 s3 b3 => ?_⟩
      cases b with
      | true =>
        rw [if_pos rfl] at w3 ⊢
        refine ⟨Hf0, H0, E2, Hf3, _, I3.step s3 b3, wp_bind w3, fun y v Hf4 H4 w4 s4 b4 r4 => ?_⟩
        exact (c2.step nb s3 b3).push hD nb s4 b4 r4 (fun H => ∃ Hf' acc, CI K bx Hf1 H1 D acc Hf' H ∧ acc.length ≤ i + 1 ∧ wp (compL f mt me (wipeE E ws) (ds.drop (i + 1)) acc) P) (by omega) fun H5 c5 => ⟨Hf4, _, c5, by simpa using la, w4⟩
      | false =>
        rw [if_neg (by decide)] at w3 ⊢
        exact ⟨Hf3, acc, c2.step nb s3 b3, by omega, w3⟩
  · have ez : ds.drop ds.length = [] := by simp
    rw [ez] at wz
    unfold compL at wz
    exact q acc D Hf1 H1 Hf' Hz (wp_pure wz) s1 hD nb c
theorem comp_core {scope : Scope} {own : List (Str × Nat)} (hc : X.calm = true) (hN : X.N.Nodup) (hi : IM X bx tg iter mi) (ok : BlkOk X.N X.env.scope scope own)
    (hg : ∀ (s : Shared) (H : Hp) (C : Addr) (cl : List (Str × Addr)) (fp : List Addr), GM (X.blk s H scope (compEnvC scope cl C X.env) fp) bx tg f js) (ht : ∀ (s : Shared) (H : Hp) (C : Addr) (cl : List (Str × Addr)) (fp : List Addr), TsM (X.blk s H scope (compEnvC scope cl C X.env) fp) bx ifs mt)
    (he : ∀ (s : Shared) (H : Hp) (C : Addr) (cl : List (Str × Addr)) (fp : List Addr), PM (X.blk s H scope (compEnvC scope cl C X.env) fp) bx elt me) (hj : ∀ j ∈ js, j ∈ own.map (·.2)) (hs : ∀ x, foldedSetIterable iter X.env x = pure x := by intro _; rfl) :
    ∃ te, PE X (.ListComp elt [⟨tg, iter, ifs, 0⟩] scope pos) te ∧ ∀ {Hf0 H0 : Hp} {E : En} {σ : L2.St} {Hf H : Hp}, EnvOk X.K bx Hf0 H0 E σ Hf H → ∀ {P : List Fm.D → Prop}, wp (mCompL mi (own.map (·.2)) f mt me E) P →
      ∀ Q : VK, (∀ acc D Hf1 H1 Hf2 H2, P acc → Step (isB bx) Hf H Hf1 H1 → H1 D = none → ¬ isB bx D → CI X.K bx Hf1 H1 D acc Hf2 H2 → Q (.ref D) H2) → te σ H Q := by
  obtain ⟨wi, i1, i2⟩ := hi.ex
  exact ⟨_, pe_lc (te := cE X.K bx me) (tt := cT X.K bx mt) (g := cG X.K bx f js) hc hN i1 ok (fun s H C cl fp => (hg s H C cl fp).can) (fun s H C cl fp => (ht s H C cl fp).ex) (fun s H C cl fp => (he s H C cl fp).can) hs, fun {Hf0 H0 E σ Hf H} I {P} w Q q => comp_ev i2 hj I w Q q⟩
theorem pm_comp {scope : Scope} {own : List (Str × Nat)} (hc : X.calm = true) (hN : X.N.Nodup) (hi : IM X bx tg iter mi) (ok : BlkOk X.N X.env.scope scope own)
    (hg : ∀ (s : Shared) (H : Hp) (C : Addr) (cl : List (Str × Addr)) (fp : List Addr), GM (X.blk s H scope (compEnvC scope cl C X.env) fp) bx tg f js) (ht : ∀ (s : Shared) (H : Hp) (C : Addr) (cl : List (Str × Addr)) (fp : List Addr), TsM (X.blk s H scope (compEnvC scope cl C X.env) fp) bx ifs mt)
    (he : ∀ (s : Shared) (H : Hp) (C : Addr) (cl : List (Str × Addr)) (fp : List Addr), PM (X.blk s H scope (compEnvC scope cl C X.env) fp) bx elt me) (hj : ∀ j ∈ js, j ∈ own.map (·.2)) (hs : ∀ x, foldedSetIterable iter X.env x = pure x := by intro _; rfl) :
    PM X bx (.ListComp elt [⟨tg, iter, ifs, 0⟩] scope pos) (mComp mi (own.map (·.2)) f mt me) := by
  obtain ⟨te, t1, t2⟩ := comp_core (pos := pos) hc hN hi ok hg ht he hj hs
  refine ⟨te, t1, fun {Hf0 H0 E σ Hf H} I {P} w Q q => t2 I (wp_bind w) _ fun acc D Hf1 H1 Hf2 H2 wz s1 hD nb c => ?_⟩
  obtain ⟨Hf3, s2, b2, r2⟩ := c.done hD nb
  exact q _ _ Hf3 H2 (wp_pure wz) (s1.trans s2) b2 r2
end
end Fm
set_option Elab.async false
set_option linter.all false
set_option maxRecDepth 100000
set_option maxHeartbeats 2000000
set_option autoImplicit false
namespace Fm
open PySem PySem.Spec PyProof.Rows L2
open Evl (Ex ex_l ex_t ex_rd)
open WPM
/-! ### statements -/
inductive Fl where
  | nx (E : En) | rt (d : D) | bk (E : En) | ct (E : En)
structure FlOk (K : PySem.W.Frag) (bx : Bx) (Hf0 H0 Hs : Hp) (P : Fl → Prop) (D : Ends) : Prop where
  nx : ∀ (E : En) (σ : L2.St) (Hf H : Hp), P (.nx E) → Ex Hs Hf → EnvOk K bx Hf0 H0 E σ Hf H → D.nx σ H
  rt : ∀ (d : Fm.D) (v : V) (Hf H : Hp), P (.rt d) → Step (isB bx) Hf0 H0 Hf H → BoxOk bx Hf H → Rp K Hf d v → D.rt v H
  bk : ∀ (E : En) (σ : L2.St) (Hf H : Hp), P (.bk E) → Ex Hs Hf → EnvOk K bx Hf0 H0 E σ Hf H → D.bk σ H
  ct : ∀ (E : En) (σ : L2.St) (Hf H : Hp), P (.ct E) → Ex Hs Hf → EnvOk K bx Hf0 H0 E σ Hf H → D.ct σ H
theorem FlOk.mono {K : PySem.W.Frag} {bx : Bx} {Hf0 H0 Hs Hs' : Hp} {P : Fl → Prop} {D : Ends} (h : FlOk K bx Hf0 H0 Hs P D) (e : Ex Hs Hs') : FlOk K bx Hf0 H0 Hs' P D :=
  ⟨fun E σ Hf H p x => h.nx E σ Hf H p (e.trans x), h.rt, fun E σ Hf H p x => h.bk E σ Hf H p (e.trans x), fun E σ Hf H p x => h.ct E σ Hf H p (e.trans x)⟩
section
variable {M : Type → Type} [WPM M]
def SvM (K : PySem.W.Frag) (bx : Bx) (ts : TS) (ms : En → M Fl) : Prop := ∀ {Hf0 H0 : Hp} {E : En} {σ : L2.St} {Hf H : Hp}, EnvOk K bx Hf0 H0 E σ Hf H → ∀ {P : Fl → Prop}, wp (ms E) P → ∀ D : Ends, FlOk K bx Hf0 H0 Hf P D → ts D σ H
structure SM (X : Cx) (bx : Bx) (st : Stmt) (ms : En → M Fl) : Prop where
  ex : ∃ ts, PS X st ts ∧ SvM X.K bx ts ms
structure SsM (X : Cx) (bx : Bx) (st : List Stmt) (ms : En → M Fl) : Prop where
  ex : ∃ ts, PSs X st ts ∧ SvM X.K bx ts ms
variable {X : Cx} {bx : Bx} {e a b c tg : Expr} {es : List Expr} {st : Stmt} {rest body : List Stmt} {ma mb mc me : En → M D} {mt : En → M Bool} {ms mu : En → M Fl} {pos : Pos} {f : D → En → Option En} {js : List Nat}
def mNx : En → M Fl := fun E => pure (.nx E)
def mSeq (ms mu : En → M Fl) : En → M Fl := fun E => ms E >>= fun
  | .nx E' => mu E'
  | .rt d => pure (.rt d)
  | .bk E' => pure (.bk E')
  | .ct E' => pure (.ct E')
theorem ssm_nil : SsM X bx [] (mNx : En → M Fl) := ⟨_, pss_nil, fun {Hf0 H0 E σ Hf H} I {P} w D q => q.nx _ _ _ _ (wp_pure w) (Ex.refl _) I⟩
theorem ssm_one (h : SM X bx st ms) : SsM X bx [st] ms := let ⟨_, a1, a2⟩ := h.ex; ⟨_, pss_one a1, a2⟩
theorem ssm_cons (h : SM X bx st ms) (h2 : SsM X bx rest mu) : SsM X bx (st :: rest) (mSeq ms mu) := by
  obtain ⟨ta, a1, a2⟩ := h.ex
  obtain ⟨tb, b1, b2⟩ := h2.ex
  refine ⟨_, pss_cons a1 b1, fun {Hf0 H0 E σ Hf H} I {P} w D q => ?_⟩
  refine a2 I (wp_bind w) _ ⟨fun E σ Hf H p x I => b2 I p D (q.mono x), fun d v Hf H p s b r => q.rt d v Hf H (wp_pure p) s b r, fun E σ Hf H p x I => q.bk E σ Hf H (wp_pure p) x I, fun E σ Hf H p x I => q.ct E σ Hf H (wp_pure p) x I⟩
def mRet (me : En → M D) : En → M Fl := fun E => me E >>= fun d => pure (.rt d)
theorem sm_ret (h : PM X bx e me) : SM X bx (.Return (some e) pos) (mRet me) := by
  obtain ⟨ta, a1, a2⟩ := h.ex
  refine ⟨_, ps_ret a1, fun {Hf0 H0 E σ Hf H} I {P} w D q => ?_⟩
  exact a2 I (wp_bind w) _ fun d v Hf2 H2 w2 s2 o2 r2 => q.rt d v Hf2 H2 (wp_pure w2) (I.st.trans s2) o2 r2
theorem sm_brk : SM X bx (.Break pos) (fun E => pure (.bk E) : En → M Fl) := ⟨_, ps_break, fun {Hf0 H0 E σ Hf H} I {P} w D q => q.bk _ _ _ _ (wp_pure w) (Ex.refl _) I⟩
theorem sm_cont : SM X bx (.Continue pos) (fun E => pure (.ct E) : En → M Fl) := ⟨_, ps_continue, fun {Hf0 H0 E σ Hf H} I {P} w D q => q.ct _ _ _ _ (wp_pure w) (Ex.refl _) I⟩
theorem sm_never : SM X bx st (fun _ => fail : En → M Fl) := ⟨_, ps_never, fun {Hf0 H0 E σ Hf H} I {P} w D q => absurd w wp_fail⟩
theorem ssm_never {sts : List Stmt} : SsM X bx sts (fun _ => fail : En → M Fl) := ⟨_, pss_never, fun {Hf0 H0 E σ Hf H} I {P} w D q => absurd w wp_fail⟩
def mIfS (mt : En → M Bool) (ms mu : En → M Fl) : En → M Fl := fun E => mt E >>= fun b => if b then ms E else mu E
theorem sm_if {sa sb : List Stmt} (hc : TM X bx c mt) (ha : SsM X bx sa ms) (hb : SsM X bx sb mu) : SM X bx (.If c sa sb pos) (mIfS mt ms mu) := by
  obtain ⟨tc, c1, c2⟩ := hc.ex
  obtain ⟨ta, a1, a2⟩ := ha.ex
  obtain ⟨tb, b1, b2⟩ := hb.ex
  refine ⟨_, ps_if c1 a1 b1, fun {Hf0 H0 E σ Hf H} I {P} w D q => ?_⟩
  refine c2 I (wp_bind w) _ fun k Hf2 H2 w2 s2 o2 => ?_
  cases k with
  | true => exact a2 (I.step s2 o2) w2 D (q.mono s2.f)
  | false => exact b2 (I.step s2 o2) w2 D (q.mono s2.f)
/-! target = value -/
def mAsg (me : En → M D) (f : D → En → Option En) : En → M Fl := fun E => me E >>= fun d => lift (f d E) >>= fun E' => pure (.nx E')
theorem sm_asg (he : PM X bx e me) (hg : GM X bx tg f js) (hs : swapsWithSole [tg] e pos.line X.env = pure false := by rfl) (hw : swappedStores [tg] e X.env = pure none := by rfl)
    (h1 : (assignEach [tg] X.env).map (·.2) = [assign tg X.env] := by rfl) : SM X bx (.Assign [tg] e pos) (mAsg me f) := by
  obtain ⟨ta, a1, a2⟩ := he.ex
  obtain ⟨g, g1, g2⟩ := hg.ex
  refine ⟨_, ps_asg a1 g1 hs hw h1, fun {Hf0 H0 E σ Hf H} I {P} w D q => ?_⟩
  refine a2 I (wp_bind w) _ fun d v Hf2 H2 w2 s2 o2 r2 => ?_
  obtain ⟨E', e1, w3⟩ := wp_lift (wp_bind w2)
  exact g2 (I.step s2 o2) r2 e1 _ fun σ' I' _ _ => q.nx _ _ _ _ (wp_pure w3) s2.f I'
theorem sm_set (i : Nat) {x : Str} {px : Pos} (he : PM X bx e me) (hN : X.N.Nodup) (hi : X.N[i]? = some x) (hx : Loc X.env.scope x) (hf : X.fn x = true ∨ X.env.scope.names.lookup x = some .local := by first | exact .inl rfl | exact .inr rfl | assumption)
    (hs : swapsWith e (some (.Name x px)) pos.line X.env = pure false := by rfl) : SM X bx (.Assign [.Name x px] e pos) (mAsg me (fName i)) := by
  obtain ⟨ta, a1, a2⟩ := he.ex
  refine ⟨_, ps_set hN hi hx a1 hs hf, fun {Hf0 H0 E σ Hf H} I {P} w D q => ?_⟩
  refine a2 I (wp_bind w) _ fun d v Hf2 H2 w2 s2 o2 r2 => ?_
  obtain ⟨E', e1, w3⟩ := wp_lift (wp_bind w2)
  unfold fName at e1
  split at e1
  · cases e1
    exact q.nx _ _ _ _ (wp_pure w3) s2.f ((I.step s2 o2).set r2 (by assumption))
  · cases e1
/-- an expression for its effects -/
def mDo (me : En → M D) : En → M Fl := fun E => me E >>= fun _ => pure (.nx E)
/-! for -/
def mForL (f : D → En → Option En) (mb : En → M Fl) : List D → En → M Fl
  | [], E => pure (.nx E)
  | d :: ds, E => lift (f d E) >>= fun E2 => mb E2 >>= fun
    | .nx E' => mForL f mb ds E'
    | .ct E' => mForL f mb ds E'
    | .bk E' => pure (.nx E')
    | .rt d => pure (.rt d)
def mFor (mi : En → M (List D)) (f : D → En → Option En) (mb : En → M Fl) : En → M Fl := fun E => mi E >>= fun ds => mForL f mb ds E
theorem sm_for {iter : Expr} {mi : En → M (List D)} (hp : PassesOwn (model X.prog X.w) X.A X.env X.xe) (hc : X.calm = true) (hi : IM X bx tg iter mi) (hg : GM X bx tg f js) (hb : SsM X bx body ms)
    (hs : ∀ x, foldedSetIterable iter X.env x = pure x := by intro _; rfl) : SM X bx (.For tg iter body [] pos) (mFor mi f ms) := by
  obtain ⟨wi, i1, i2⟩ := hi.ex
  obtain ⟨g, g1, g2⟩ := hg.ex
  obtain ⟨tb, b1, b2⟩ := hb.ex
  refine ⟨_, ps_for hp hc i1 g1 b1 hs, fun {Hf0 H0 E σ Hf H} I {P} w D q => ?_⟩
  refine i2 I (wp_bind w) _ fun ds J Hf1 H1 w1 s1 o1 it => ?_
  have I1 := I.step s1 o1
  refine for_it it (fun i σ H => ∃ Hf' E', Ex Hf1 Hf' ∧ EnvOk X.K bx Hf0 H0 E' σ Hf' H ∧ wp (mForL f ms (ds.drop i) E') P) ⟨Hf1, E, Ex.refl _, I1, w1⟩ (fun i σ H _ ⟨Hf', E', x, I', _⟩ => ⟨Hf', x, I'.st.i⟩) (fun i x σ Ha Hb hin p y => ?_) (fun σ Hz ⟨Hf', E', x', I', wz⟩ => ?_)
  · obtain ⟨Hf', E', x', I', wz⟩ := p
    obtain ⟨Hf2, d, s2, bb, ed, r2⟩ := y Hf' x' I'.st.i
    have I2 := I'.step s2 (bb I'.box)
    rw [(List.drop_eq_getElem_cons hin).trans (by rw [List.getElem?_eq_getElem hin] at ed; cases ed; rfl : ds[i] :: ds.drop (i + 1) = d :: ds.drop (i + 1))] at wz
    unfold mForL at wz
    obtain ⟨E2, e2, wz⟩ := wp_lift (wp_bind wz)
    refine g2 I2 r2 e2 _ fun σ' I3 _ _ => ?_
    exact b2 I3 (wp_bind wz) _ ⟨fun E σ Hf H p x I => ⟨Hf, E, (x'.trans s2.f).trans x, I, p⟩, fun d v Hf H p s b r => q.rt d v Hf H (wp_pure p) s b r, fun E σ Hf H p x I => q.nx E σ Hf H (wp_pure p) (s1.f.trans ((x'.trans s2.f).trans x)) I, fun E σ Hf H p x I => ⟨Hf, E, (x'.trans s2.f).trans x, I, p⟩⟩
  · have ez : ds.drop ds.length = [] := by simp
    rw [ez] at wz
    unfold mForL at wz
    exact q.nx _ _ _ _ (wp_pure wz) (s1.f.trans x') I'
end
end Fm
set_option Elab.async false
set_option linter.all false
set_option maxRecDepth 100000
set_option maxHeartbeats 2000000
set_option autoImplicit false
namespace Fm
open PySem PySem.Spec PyProof.Rows L2
open Evl (Ex ex_l ex_t ex_rd)
open WPM
/-! ### values that are one's own: new lists, new dicts -/
def NwOk (K : PySem.W.Frag) (Hs Hf H : Hp) (s : Sl) (v : V) : Prop := match s with
  | .sh d => Rp K Hf d v
  | .ow ds => ∃ p vs, v = .ref p ∧ Hs p = none ∧ Hf p = none ∧ H p = some (.lst vs) ∧ RpL K Hf ds vs
  | .od ks ds => ∃ p kvs, v = .ref p ∧ Hs p = none ∧ Hf p = none ∧ H p = some (.dK kvs) ∧ kvs.map (·.1) = ks ∧ RpL K Hf ds (kvs.map (·.2))
  | _ => False
theorem NwOk.step {K : PySem.W.Frag} {B : Addr → Prop} {Hs Hf H Hf2 H2 : Hp} {s : Sl} {v : V} (h : NwOk K Hs Hf H s v) (st : Step B Hf H Hf2 H2) (hb : ∀ p, Hs p = none → ¬ B p) : NwOk K Hs Hf2 H2 s v := by
  cases s with
  | sh d => exact Rp.mono st.f _ _ h
  | ow ds =>
    obtain ⟨p, vs, e, h1, h2, h3, r⟩ := h
    exact ⟨p, vs, e, h1, st.n p h2 (by rw [h3]; simp), st.k p _ (hb p h1) h3, r.mono st.f⟩
  | od ks ds =>
    obtain ⟨p, vs, e, h1, h2, h3, z, r⟩ := h
    exact ⟨p, vs, e, h1, st.n p h2 (by rw [h3]; simp), st.k p _ (hb p h1) h3, z, r.mono st.f⟩
  | un => exact h.elim
  | bx => exact h.elim
theorem NwOk.back {K : PySem.W.Frag} {Hs Hs' Hf H : Hp} {s : Sl} {v : V} (h : NwOk K Hs' Hf H s v) (hb : ∀ p, Hs' p = none → Hs p = none) : NwOk K Hs Hf H s v := by
  cases s with
  | sh d => exact h
  | ow ds =>
    obtain ⟨p, vs, e, h1, r⟩ := h
    exact ⟨p, vs, e, hb p h1, r⟩
  | od ks ds =>
    obtain ⟨p, vs, e, h1, r⟩ := h
    exact ⟨p, vs, e, hb p h1, r⟩
  | un => exact h.elim
  | bx => exact h.elim
section
variable {M : Type → Type} [WPM M]
def NvM (K : PySem.W.Frag) (bx : Bx) (te : TE) (me : En → M Sl) : Prop := ∀ {Hf0 H0 : Hp} {E : En} {σ : L2.St} {Hf H : Hp}, EnvOk K bx Hf0 H0 E σ Hf H → ∀ {P : Sl → Prop}, wp (me E) P →
  ∀ Q : VK, (∀ s v Hf2 H2, P s → Step (isB bx) Hf H Hf2 H2 → BoxOk bx Hf2 H2 → NwOk K H Hf2 H2 s v → Q v H2) → te σ H Q
structure NM (X : Cx) (bx : Bx) (e : Expr) (me : En → M Sl) : Prop where
  ex : ∃ te, PE X e te ∧ NvM X.K bx te me
variable {X : Cx} {bx : Bx} {e a b c tg elt iter : Expr} {es ifs : List Expr} {me : En → M D} {ms : En → M (List Sl)} {mn mn2 mn3 : En → M Sl} {mi : En → M (List D)} {mt : En → M Bool} {f : D → En → Option En} {js : List Nat} {pos : Pos}
def nSh (me : En → M D) : En → M Sl := fun E => me E >>= fun d => pure (.sh d)
theorem nm_sh (h : PM X bx e me) : NM X bx e (nSh me) := by
  obtain ⟨ta, a1, a2⟩ := h.ex
  exact ⟨_, a1, fun {Hf0 H0 E σ Hf H} I {P} w Q q => a2 I (wp_bind w) _ fun d v Hf2 H2 w2 s2 o2 r2 => q (.sh d) v Hf2 H2 (wp_pure w2) s2 o2 r2⟩
theorem NwOk.lst {K : PySem.W.Frag} {Hs Hf H : Hp} {ds : List D} {vs : List V} {p : Addr} (i : Ex Hf H) (r : RpL K Hf ds vs) (h0 : Hs p = none) (hp : H p = none) : NwOk K Hs Hf (upd H p (.lst vs)) (.ow ds) (.ref p) := ⟨p, vs, rfl, h0, Evl.fresh_back i hp, upd_same, r⟩
theorem Step.add {B : Addr → Prop} {Hf H : Hp} {p : Addr} {o : HO} (i : Ex Hf H) (hp : H p = none) : Step B Hf H Hf (upd H p o) := (Step.refl i).put hp (Evl.fresh_back i hp)
theorem EnvOk.nb {K : PySem.W.Frag} {Hf0 H0 Hf H : Hp} {E : En} {σ : L2.St} (I : EnvOk K bx Hf0 H0 E σ Hf H) {p : Addr} (hp : H p = none) : ¬ isB bx p := fun z => I.st.l p (I.b0 p z) hp
def nLst (ms : En → M (List Sl)) : En → M Sl := fun E => ms E >>= fun ss => lift (shs ss) >>= fun ds => if ds.length ≤ sizeLine then pure (.ow ds) else fail
theorem nm_lst (h : CM X bx es ms) : NM X bx (.List es pos) (nLst ms) := by
  obtain ⟨ta, a1, a2⟩ := h.ex
  refine ⟨_, pe_lst a1, fun {Hf0 H0 E σ Hf H} I {P} w Q q => ?_⟩
  refine a2 I (wp_bind w) _ fun ss vs Hf2 H2 w2 s2 o2 z2 => ?_
  obtain ⟨ds, e1, w3⟩ := wp_lift (wp_bind w2)
  have rl := shs_of z2 e1
  split at w3
  case isFalse => exact absurd w3 wp_fail
  case isTrue hl =>
  refine ⟨by rw [← rl.length]; exact hl, fun o ho => q _ _ Hf2 _ (wp_pure w3) (s2.trans (.add s2.i ho)) (o2.upd ((I.step s2 o2).nb ho)) (.lst s2.i rl ?_ ho)⟩
  cases z : H o with
  | none => rfl
  | some u => exact absurd ho (s2.l o (by rw [z]; simp))
theorem nm_dnew : NM X bx (.Dict [] [] pos) (fun _ => pure (.od [] []) : En → M Sl) := by
  refine ⟨_, pe_dnewK, fun {Hf0 H0 E σ Hf H} I {P} w Q q => fun o ho => ?_⟩
  exact q _ _ Hf _ (wp_pure w) (.add I.st.i ho) (I.box.upd (I.nb ho)) ⟨o, [], rfl, ho, Evl.fresh_back I.st.i ho, upd_same, rfl, .nil⟩
def nList (mr : En → M (List D)) : En → M Sl := fun E => mr E >>= fun ds => match ds with
  | [.lst xs] => pure (.ow xs)
  | [.tup xs] => pure (.ow xs)
  | _ => fail
theorem nm_list {mr : En → M (List D)} {p : Pos} (hg : Gl X "list") (hm : X.mg "list" = none) (ha : AM X bx [a] mr) (h1 : starEach [a] X.env = [(false, eval a X.env)] := by rfl) : NM X bx (.Call (.Name "list" p) [a] [] pos) (nList mr) := by
  obtain ⟨ta, a1, a2⟩ := ha.ex
  refine ⟨_, pe_callTy (T := "list") call_list_of hg hm (by decide +kernel) a1 (by decide) (by decide) h1 rfl, fun {Hf0 H0 E σ Hf H} I {P} w Q q => ?_⟩
  refine a2 I (wp_bind w) _ fun ds vs Hf2 H2 w2 s2 o2 r => ?_
  have key : ∀ (p : Addr) (xs : List D) (ys : List V), P (.ow xs) → RpL X.K Hf2 xs ys → ∀ l, H2 l = none → Q (.ref l) (upd H2 l (.lst ys)) := fun p xs ys w3 r2 o ho => q _ _ Hf2 _ w3 (s2.trans (.add s2.i ho)) (o2.upd ((I.step s2 o2).nb ho)) (.lst s2.i r2 (by
    cases z : H o with
    | none => rfl
    | some u => exact absurd ho (s2.l o (by rw [z]; simp))) ho)
  unfold nList at w2
  cases r with
  | nil => exact absurd w2 wp_fail
  | @cons d ds v vs rd r =>
    cases r with
    | cons _ _ => cases d <;> exact absurd w2 wp_fail
    | nil =>
      cases d with
      | lst xs =>
        obtain ⟨p, vs, rfl, h1, r2⟩ := rd.lst s2.i
        exact ⟨p, vs, rfl, .inl (.of h1), key p xs vs (wp_pure w2) r2⟩
      | tup xs =>
        obtain ⟨p, vs, rfl, h1, r2⟩ := rd.tup
        exact ⟨p, vs, rfl, .inr (ex_t s2.i h1), key p xs vs (wp_pure w2) r2⟩
      | _ => exact absurd w2 wp_fail
def nComp (mi : En → M (List D)) (ws : List Nat) (f : D → En → Option En) (mt : En → M Bool) (me : En → M D) : En → M Sl := fun E => mCompL mi ws f mt me E >>= fun acc => pure (.ow acc)
theorem nm_comp {scope : Scope} {own : List (Str × Nat)} (hc : X.calm = true) (hN : X.N.Nodup) (hi : IM X bx tg iter mi) (ok : BlkOk X.N X.env.scope scope own)
    (hg : ∀ (s : Shared) (H : Hp) (C : Addr) (cl : List (Str × Addr)) (fp : List Addr), GM (X.blk s H scope (compEnvC scope cl C X.env) fp) bx tg f js) (ht : ∀ (s : Shared) (H : Hp) (C : Addr) (cl : List (Str × Addr)) (fp : List Addr), TsM (X.blk s H scope (compEnvC scope cl C X.env) fp) bx ifs mt)
    (he : ∀ (s : Shared) (H : Hp) (C : Addr) (cl : List (Str × Addr)) (fp : List Addr), PM (X.blk s H scope (compEnvC scope cl C X.env) fp) bx elt me) (hj : ∀ j ∈ js, j ∈ own.map (·.2)) (hs : ∀ x, foldedSetIterable iter X.env x = pure x := by intro _; rfl) :
    NM X bx (.ListComp elt [⟨tg, iter, ifs, 0⟩] scope pos) (nComp mi (own.map (·.2)) f mt me) := by
  obtain ⟨te, t1, t2⟩ := comp_core (pos := pos) hc hN hi ok hg ht he hj hs
  refine ⟨te, t1, fun {Hf0 H0 E σ Hf H} I {P} w Q q => t2 I (wp_bind w) _ fun acc D Hf1 H1 Hf2 H2 wz s1 hD nb c => ?_⟩
  obtain ⟨vs, h1, h2⟩ := c.ls
  refine q _ _ Hf2 H2 (wp_pure wz) (s1.trans c.st) c.bo ⟨D, vs, rfl, ?_, c.nf, h1, h2⟩
  cases z : H D with
  | none => rfl
  | some u => exact absurd hD (s1.l D (by rw [z]; simp))

/-! a slot takes it -/
theorem EnvOk.setS {K : PySem.W.Frag} {Hf0 H0 Hf H Hs : Hp} {E : En} {σ : L2.St} {i : Nat} {s : Sl} {v : V} (h : EnvOk K bx Hf0 H0 E σ Hf H) (r : NwOk K Hs Hf H s v) (hi : i < E.length) (hs : ∀ p, Hs p = none → H0 p = none)
    (hd : ∀ k t p, k ≠ i → E[k]? = some t → isOw t → σ[k]? = some (some (.ref p)) → Hs p ≠ none) : EnvOk K bx Hf0 H0 (E.set i s) (σ.set i (some v)) Hf H := by
  have hl : i < σ.length := by rw [h.len]; exact hi
  have own : ∀ p, isOw s → v = .ref p → Hs p = none := fun p o e => by
    cases s with
    | ow ds => obtain ⟨p', vs, e', h1, _⟩ := r; rw [e] at e'; cases e'; exact h1
    | od ks ds => obtain ⟨p', vs, e', h1, _⟩ := r; rw [e] at e'; cases e'; exact h1
    | _ => exact o.elim
  refine ⟨h.st, h.box, h.b0, by rw [List.length_set, List.length_set, h.len], fun j t e => ?_, fun j k t u p n e1 e2 o1 o2 v1 v2 => ?_⟩
  · by_cases q : i = j
    · subst q
      rw [List.getElem?_set_self hi] at e
      cases e
      rw [List.getElem?_set_self hl]
      cases s with
      | sh d => exact ⟨v, rfl, r⟩
      | ow ds => obtain ⟨p, vs, e', h1, h2, h3, z⟩ := r; exact ⟨p, vs, by rw [e'], hs p h1, h2, h3, z⟩
      | od ks ds => obtain ⟨p, vs, e', h1, h2, h3, z⟩ := r; exact ⟨p, vs, by rw [e'], hs p h1, h2, h3, z⟩
      | un => exact r.elim
      | bx => exact r.elim
    · rw [List.getElem?_set_ne q] at e
      rw [List.getElem?_set_ne q]
      exact h.sl j t e
  · by_cases q : i = j
    · subst q
      rw [List.getElem?_set_self hi] at e1
      cases e1
      rw [List.getElem?_set_self hl] at v1
      rw [List.getElem?_set_ne n] at e2 v2
      exact hd k u p (Ne.symm n) e2 o2 v2 (own p o1 (by simpa using v1))
    · rw [List.getElem?_set_ne q] at e1 v1
      by_cases q2 : i = k
      · subst q2
        rw [List.getElem?_set_self hi] at e2
        cases e2
        rw [List.getElem?_set_self hl] at v2
        exact hd j t p (Ne.symm q) e1 o1 v1 (own p o2 (by simpa using v2))
      · rw [List.getElem?_set_ne q2] at e2 v2
        exact h.dj j k t u p n e1 e2 o1 o2 v1 v2
/-- owned slots hold something -/
theorem EnvOk.live {K : PySem.W.Frag} {Hf0 H0 Hf H : Hp} {E : En} {σ : L2.St} (h : EnvOk K bx Hf0 H0 E σ Hf H) {k : Nat} {t : Sl} {p : Addr} (e : E[k]? = some t) (o : isOw t) (v : σ[k]? = some (some (.ref p))) : H p ≠ none ∧ H0 p = none ∧ Hf p = none := by
  have := h.sl k t e
  cases t with
  | ow ds =>
    obtain ⟨p', vs, e', h1, h2, h3, _⟩ := this
    rw [v] at e'; cases e'
    exact ⟨by rw [h3]; simp, h1, h2⟩
  | od ks ds =>
    obtain ⟨p', vs, e', h1, h2, h3, _⟩ := this
    rw [v] at e'; cases e'
    exact ⟨by rw [h3]; simp, h1, h2⟩
  | _ => exact o.elim
theorem none_back {B : Addr → Prop} {Hf H Hf2 H2 : Hp} (s : Step B Hf H Hf2 H2) {p : Addr} (h : H2 p = none) : H p = none := by
  cases z : H p with
  | none => rfl
  | some u => exact absurd h (s.l p (by rw [z]; simp))
def setE (i : Nat) (s : Sl) (E : En) : Option En := if i < E.length then some (E.set i s) else none
theorem setE_of {i : Nat} {s : Sl} {E E' : En} (h : setE i s E = some E') : i < E.length ∧ E' = E.set i s := by
  unfold setE at h
  split at h
  · cases h; exact ⟨by assumption, rfl⟩
  · cases h
def mSetN (i : Nat) (mn : En → M Sl) : En → M Fl := fun E => mn E >>= fun s => lift (setE i s E) >>= fun E' => pure (.nx E')
theorem sm_setN (i : Nat) {x : Str} {px : Pos} (he : NM X bx e mn) (hN : X.N.Nodup) (hi : X.N[i]? = some x) (hx : Loc X.env.scope x) (hf : X.fn x = true ∨ X.env.scope.names.lookup x = some .local := by first | exact .inl rfl | exact .inr rfl | assumption)
    (hs : swapsWith e (some (.Name x px)) pos.line X.env = pure false := by rfl) : SM X bx (.Assign [.Name x px] e pos) (mSetN i mn) := by
  obtain ⟨ta, a1, a2⟩ := he.ex
  refine ⟨_, ps_set hN hi hx a1 hs hf, fun {Hf0 H0 E σ Hf H} I {P} w D q => ?_⟩
  refine a2 I (wp_bind w) _ fun d v Hf2 H2 w2 s2 o2 r2 => ?_
  obtain ⟨E', e1, w3⟩ := wp_lift (wp_bind w2)
  obtain ⟨hl, rfl⟩ := setE_of e1
  exact q.nx _ _ _ _ (wp_pure w3) s2.f ((I.step s2 o2).setS r2 hl (fun p h => none_back I.st h) fun k t p n e o v => (I.live e o v).1)
/-! a, b = x, y -/
def mPar (i j : Nat) (mn mn2 : En → M Sl) : En → M Fl := fun E => mn E >>= fun s => mn2 E >>= fun t => lift ((setE i s E).bind (setE j t)) >>= fun E' => pure (.nx E')
theorem NwOk.ref {K : PySem.W.Frag} {Hs Hf H : Hp} {s : Sl} {v : V} (r : NwOk K Hs Hf H s v) {p : Addr} (o : isOw s) (e : v = .ref p) : H p ≠ none := by
  cases s with
  | ow ds => obtain ⟨p', vs, e', _, _, h1, _⟩ := r; rw [e] at e'; cases e'; rw [h1]; simp
  | od ks ds => obtain ⟨p', vs, e', _, _, h1, _⟩ := r; rw [e] at e'; cases e'; rw [h1]; simp
  | _ => exact o.elim
theorem sm_par (i j : Nat) {x y : Str} {px py pt : Pos} {kt k2 pt2} (hc : X.calm = true) (hN : X.N.Nodup) (hi : X.N[i]? = some x) (hj : X.N[j]? = some y) (hij : i ≠ j) (hx : X.env.scope.names.lookup x = some .local) (hy : X.env.scope.names.lookup y = some .local)
    (ha : NM X bx a mn) (hb : NM X bx b mn2) (hw : swappedStores [.Tuple [.Name x px, .Name y py] kt pt] (.Tuple [a, b] k2 pt2) X.env = pure (some [x, y]))
    (h1 : starEach [a, b] X.env = (false, eval a X.env) :: starEach [b] X.env := by rfl) (h2 : starEach [b] X.env = (false, eval b X.env) :: starEach [] X.env := by rfl)
    (hs : swapsWithSole [.Tuple [.Name x px, .Name y py] kt pt] (.Tuple [a, b] k2 pt2) pos.line X.env = pure false := by rfl) :
    SM X bx (.Assign [.Tuple [.Name x px, .Name y py] kt pt] (.Tuple [a, b] k2 pt2) pos) (mPar i j mn mn2) := by
  obtain ⟨ta, a1, a2⟩ := ha.ex
  obtain ⟨tb, b1, b2⟩ := hb.ex
  refine ⟨_, ps_par hc hN hi hj hij hx hy (pa_cons a1 (pa_cons b1 pa_nil h2) h1) hw hs, fun {Hf0 H0 E σ Hf H} I {P} w D q => ?_⟩
  refine a2 I (wp_bind w) _ fun s v Hf2 H2 w2 s2 o2 r2 => ?_
  refine b2 (I.step s2 o2) (wp_bind w2) _ fun t u Hf3 H3 w3 s3 o3 r3 => ?_
  obtain ⟨E', e1, w4⟩ := wp_lift (wp_bind w3)
  cases e2 : setE i s E with
  | none => rw [e2] at e1; cases e1
  | some E1 =>
    rw [e2] at e1
    obtain ⟨l1, rfl⟩ := setE_of e2
    obtain ⟨l2, rfl⟩ := setE_of (show setE j t (E.set i s) = some E' from e1)
    have I3 := (I.step s2 o2).step s3 o3
    have J1 := I3.setS (r2.step s3 fun p h => I.nb h) l1 (fun p h => none_back I.st h) fun k t p n e o v => (I.live e o v).1
    refine ⟨v, u, rfl, q.nx _ _ _ _ (wp_pure w4) (s2.f.trans s3.f) (J1.setS r3 l2 (fun p h => none_back I.st (none_back s2 h)) fun k t p n e o v' z => ?_)⟩
    by_cases qk : i = k
    · subst qk
      rw [List.getElem?_set_self l1] at e
      cases e
      rw [List.getElem?_set_self (by rw [I.len]; exact l1)] at v'
      exact r2.ref o (by simpa using v') z
    · rw [List.getElem?_set_ne qk] at e v'
      exact ((I.step s2 o2).live e o v').1 z
def mPar3 (i j l : Nat) (mn mn2 mn3 : En → M Sl) : En → M Fl := fun E => mn E >>= fun s => mn2 E >>= fun t => mn3 E >>= fun u => lift (((setE i s E).bind (setE j t)).bind (setE l u)) >>= fun E' => pure (.nx E')
theorem sm_par3 (i j l : Nat) {x y z : Str} {px py pz pt : Pos} {kt k2 pt2} (hc : X.calm = true) (hN : X.N.Nodup) (hi : X.N[i]? = some x) (hj : X.N[j]? = some y) (hl : X.N[l]? = some z) (hij : i ≠ j) (hil : i ≠ l) (hjl : j ≠ l)
    (hx : X.env.scope.names.lookup x = some .local) (hy : X.env.scope.names.lookup y = some .local) (hz : X.env.scope.names.lookup z = some .local)
    (ha : NM X bx a mn) (hb : NM X bx b mn2) (hc3 : NM X bx c mn3) (hw : swappedStores [.Tuple [.Name x px, .Name y py, .Name z pz] kt pt] (.Tuple [a, b, c] k2 pt2) X.env = pure (some [x, y, z]))
    (h1 : starEach [a, b, c] X.env = (false, eval a X.env) :: starEach [b, c] X.env := by rfl) (h2 : starEach [b, c] X.env = (false, eval b X.env) :: starEach [c] X.env := by rfl) (h3 : starEach [c] X.env = (false, eval c X.env) :: starEach [] X.env := by rfl)
    (hs : swapsWithSole [.Tuple [.Name x px, .Name y py, .Name z pz] kt pt] (.Tuple [a, b, c] k2 pt2) pos.line X.env = pure false := by rfl) :
    SM X bx (.Assign [.Tuple [.Name x px, .Name y py, .Name z pz] kt pt] (.Tuple [a, b, c] k2 pt2) pos) (mPar3 i j l mn mn2 mn3) := by
  obtain ⟨ta, a1, a2⟩ := ha.ex
  obtain ⟨tb, b1, b2⟩ := hb.ex
  obtain ⟨tc, c1, c2⟩ := hc3.ex
  refine ⟨_, ps_par3 hc hN hi hj hl hij hil hjl hx hy hz (pa_cons a1 (pa_cons b1 (pa_cons c1 pa_nil h3) h2) h1) hw hs, fun {Hf0 H0 E σ Hf H} I {P} w D q => ?_⟩
  refine a2 I (wp_bind w) _ fun s v Hf2 H2 w2 s2 o2 r2 => ?_
  refine b2 (I.step s2 o2) (wp_bind w2) _ fun t u Hf3 H3 w3 s3 o3 r3 => ?_
  refine c2 ((I.step s2 o2).step s3 o3) (wp_bind w3) _ fun t2 u2 Hf4 H4 w4 s4 o4 r4 => ?_
  obtain ⟨E', e1, w5⟩ := wp_lift (wp_bind w4)
  cases e2 : setE i s E with
  | none => rw [e2] at e1; cases e1
  | some E1 =>
    rw [e2] at e1
    obtain ⟨l1, rfl⟩ := setE_of e2
    cases e3 : setE j t (E.set i s) with
    | none => rw [show (some (E.set i s)).bind (setE j t) = setE j t (E.set i s) from rfl, e3] at e1; cases e1
    | some E2 =>
      rw [show (some (E.set i s)).bind (setE j t) = setE j t (E.set i s) from rfl, e3] at e1
      obtain ⟨l2, rfl⟩ := setE_of e3
      obtain ⟨l3, rfl⟩ := setE_of (show setE l t2 ((E.set i s).set j t) = some E' from e1)
      have s34 := s3.trans s4
      have I4 := ((I.step s2 o2).step s3 o3).step s4 o4
      have J1 := I4.setS (r2.step s34 fun p h => I.nb h) l1 (fun p h => none_back I.st h) fun k t p n e o v => (I.live e o v).1
      have J2 := J1.setS (r3.step s4 fun p h => (I.step s2 o2).nb h) l2 (fun p h => none_back I.st (none_back s2 h)) fun k t p n e o v' z => by
        by_cases qk : i = k
        · subst qk
          rw [List.getElem?_set_self l1] at e
          cases e
          rw [List.getElem?_set_self (by rw [I.len]; exact l1)] at v'
          exact r2.ref o (by simpa using v') z
        · rw [List.getElem?_set_ne qk] at e v'
          exact ((I.step s2 o2).live e o v').1 z
      have l1' : i < σ.length := by rw [I.len]; exact l1
      have l2' : j < (σ.set i (some v)).length := by rw [List.length_set, I.len]; simpa using l2
      refine ⟨v, u, u2, rfl, q.nx _ _ _ _ (wp_pure w5) ((s2.f.trans s3.f).trans s4.f) (J2.setS r4 l3 (fun p h => none_back I.st (none_back s2 (none_back s3 h))) fun k t p n e o v' z => ?_)⟩
      by_cases qj : j = k
      · subst qj
        rw [List.getElem?_set_self l2] at e
        cases e
        rw [List.getElem?_set_self l2'] at v'
        exact r3.ref o (by simpa using v') z
      · rw [List.getElem?_set_ne qj] at e v'
        by_cases qk : i = k
        · subst qk
          rw [List.getElem?_set_self l1] at e
          cases e
          rw [List.getElem?_set_self l1'] at v'
          exact s3.l p (r2.ref o (by simpa using v')) z
        · rw [List.getElem?_set_ne qk] at e v'
          exact (((I.step s2 o2).step s3 o3).live e o v').1 z
/-! from now on as it is -/
def frzE (i : Nat) (E : En) : En := match E[i]? with
  | some (.ow ds) => E.set i (.sh (.lst ds))
  | some (.od ks ds) => E.set i (.sh (.dct ks ds))
  | _ => E
theorem set_same {α : Type} {l : List α} {i : Nat} {x : α} (h : l[i]? = some x) : l.set i x = l := by
  refine List.ext_getElem? fun j => ?_
  by_cases q : i = j
  · subst q
    rw [h, List.getElem?_set_self]
    exact (List.getElem?_eq_some_iff.mp h).1
  · rw [List.getElem?_set_ne q]
theorem EnvOk.frz {K : PySem.W.Frag} {Hf0 H0 Hf H : Hp} {E : En} {σ : L2.St} (I : EnvOk K bx Hf0 H0 E σ Hf H) (i : Nat) : ∃ Hf2, Ex Hf Hf2 ∧ EnvOk K bx Hf0 H0 (frzE i E) σ Hf2 H := by
  unfold frzE
  have main : ∀ {s : Sl} {p : Addr} {o : HO} {d : D}, E[i]? = some s → isOw s → σ[i]? = some (some (.ref p)) → H p = some o → (Rp K (upd Hf p o) d (.ref p)) → ∃ Hf2, Ex Hf Hf2 ∧ EnvOk K bx Hf0 H0 (E.set i (.sh d)) σ Hf2 H := by
    intro s p o d e os hv hp r
    obtain ⟨a1, a2, a3⟩ := I.live e os hv
    have nb : ¬ isB bx p := fun z => I.b0 p z a2
    have li : i < E.length := (List.getElem?_eq_some_iff.mp e).1
    refine ⟨upd Hf p o, Ex.new a3, ⟨I.st.f.trans (Ex.new a3), fun a u x => ?_, fun a x n => ?_, I.st.k, I.st.l⟩, I.box.frz nb, I.b0, by rw [List.length_set]; exact I.len, fun j t x => ?_, fun j k t u q n x1 x2 o1 o2 v1 v2 => ?_⟩
    · unfold upd at x
      by_cases q : a = p
      · rw [if_pos q] at x; cases x; rw [q]; exact hp
      · rw [if_neg q] at x; exact I.st.i a u x
    · have : a ≠ p := fun z => n (by rw [z]; exact a2)
      rw [upd_ne this]; exact I.st.n a x n
    · by_cases q : i = j
      · subst q
        rw [List.getElem?_set_self li] at x
        cases x
        exact ⟨_, hv, r⟩
      · rw [List.getElem?_set_ne q] at x
        have old := I.sl j t x
        cases t with
        | un => trivial
        | sh d => obtain ⟨v, e1, r1⟩ := old; exact ⟨v, e1, r1.mono (Ex.new a3)⟩
        | ow ds =>
          obtain ⟨p', vs, e1, h1, h2, h3, r1⟩ := old
          have np : p' ≠ p := fun z => I.dj i j s _ p (fun z => q z) e x os trivial hv (by rw [e1, z])
          exact ⟨p', vs, e1, h1, by rw [upd_ne np]; exact h2, h3, r1.mono (Ex.new a3)⟩
        | od ks ds =>
          obtain ⟨p', vs, e1, h1, h2, h3, z1, r1⟩ := old
          have np : p' ≠ p := fun z => I.dj i j s _ p (fun z => q z) e x os trivial hv (by rw [e1, z])
          exact ⟨p', vs, e1, h1, by rw [upd_ne np]; exact h2, h3, z1, r1.mono (Ex.new a3)⟩
        | bx => exact old
    · by_cases q1 : i = j
      · subst q1
        rw [List.getElem?_set_self li] at x1
        cases x1; exact o1.elim
      · by_cases q2 : i = k
        · subst q2
          rw [List.getElem?_set_self li] at x2
          cases x2; exact o2.elim
        · rw [List.getElem?_set_ne q1] at x1
          rw [List.getElem?_set_ne q2] at x2
          exact I.dj j k t u q n x1 x2 o1 o2 v1 v2
  cases e : E[i]? with
  | none => exact ⟨Hf, Ex.refl _, I⟩
  | some s =>
    cases s with
    | ow ds =>
      obtain ⟨p, vs, e1, h1, h2, h3, r⟩ := I.at e
      exact main e trivial e1 h3 (.lst upd_same (r.mono (Ex.new h2)))
    | od ks ds =>
      obtain ⟨p, vs, e1, h1, h2, h3, z, r⟩ := I.at e
      exact main e trivial e1 h3 (.dct upd_same z (r.mono (Ex.new h2)))
    | _ => exact ⟨Hf, Ex.refl _, I⟩
def mFrz (i : Nat) (ms : En → M Fl) : En → M Fl := fun E => ms (frzE i E)
theorem sm_frz (i : Nat) {st : Stmt} {mz : En → M Fl} (h : SM X bx st mz) : SM X bx st (mFrz i mz) := by
  obtain ⟨ts, a1, a2⟩ := h.ex
  refine ⟨ts, a1, fun {Hf0 H0 E σ Hf H} I {P} w D q => ?_⟩
  obtain ⟨Hf2, x, I2⟩ := I.frz i
  exact a2 I2 w D (q.mono x)
/-! changes of one's own -/
theorem EnvOk.putS {K : PySem.W.Frag} {Hf0 H0 Hf H : Hp} {E : En} {σ : L2.St} {i : Nat} {s t : Sl} {p : Addr} {o : HO} (I : EnvOk K bx Hf0 H0 E σ Hf H) (e : E[i]? = some s) (os : isOw s) (hv : σ[i]? = some (some (.ref p))) (ht : SlOk K bx H0 Hf (upd H p o) t (some (some (.ref p)))) (ot : isOw t) :
    EnvOk K bx Hf0 H0 (E.set i t) σ Hf (upd H p o) := by
  obtain ⟨a1, a2, a3⟩ := I.live e os hv
  have nb : ¬ isB bx p := fun z => I.b0 p z a2
  have li : i < E.length := (List.getElem?_eq_some_iff.mp e).1
  refine ⟨I.st.put a2 a3, I.box.upd nb, I.b0, by rw [List.length_set]; exact I.len, fun j u x => ?_, fun j k u w q n x1 x2 o1 o2 v1 v2 => ?_⟩
  · by_cases q : i = j
    · subst q
      rw [List.getElem?_set_self li] at x
      cases x
      rw [hv]; exact ht
    · rw [List.getElem?_set_ne q] at x
      have old := I.sl j u x
      cases u with
      | ow ds =>
        obtain ⟨p', vs, e1, h1, h2, h3, r1⟩ := old
        have np : p' ≠ p := fun z => I.dj i j s _ p (fun z => q z) e x os trivial hv (by rw [e1, z])
        exact ⟨p', vs, e1, h1, h2, by rw [upd_ne np]; exact h3, r1⟩
      | od ks ds =>
        obtain ⟨p', vs, e1, h1, h2, h3, z1, r1⟩ := old
        have np : p' ≠ p := fun z => I.dj i j s _ p (fun z => q z) e x os trivial hv (by rw [e1, z])
        exact ⟨p', vs, e1, h1, h2, by rw [upd_ne np]; exact h3, z1, r1⟩
      | _ => exact old
  · by_cases q1 : i = j
    · subst q1
      rw [List.getElem?_set_ne n] at x2
      exact I.dj i k s w q n e x2 os o2 v1 v2
    · rw [List.getElem?_set_ne q1] at x1
      by_cases q2 : i = k
      · subst q2
        exact I.dj j i u s q n x1 e o1 os v1 v2
      · rw [List.getElem?_set_ne q2] at x2
        exact I.dj j k u w q n x1 x2 o1 o2 v1 v2
def mApp (i : Nat) (me : En → M D) : En → M Fl := fun E => match E[i]? with
  | some (.ow ds) => me E >>= fun d => if ds.length < sizeLine then pure (.nx (E.set i (.ow (ds ++ [d])))) else fail
  | _ => fail
theorem sm_app (i : Nat) {x : Str} {px pa pc : Pos} (hv : PE X (.Name x px) (tVar i)) (he : PM X bx e me) (h1 : starEach [e] X.env = (false, eval e X.env) :: starEach [] X.env := by rfl)
    (hbase : attributeBase (.Name x px) "append" X.env (eval (.Name x px) X.env) = eval (.Name x px) X.env := by rfl)
    (hfew : ((backTo pc (starEach [e] X.env)).all (fun x => !x.1) && (backToKw pc (keywordEach [] X.env)).all (fun x => x.1.isSome)
      && decide ([e].length + ([] : List Keyword).length + (if ([] : List Keyword).isEmpty then 0 else 1) < 30)) = true := by rfl)
    (hline : (pa.endLine == pc.line) = true := by rfl) (hs : swapsWith (.Call (.Attribute (.Name x px) "append" pa) [e] [] pc) none pos.line X.env = pure false := by rfl) :
    SM X bx (.Expr (.Call (.Attribute (.Name x px) "append" pa) [e] [] pc) pos) (mApp i me) := by
  obtain ⟨ta, a1, a2⟩ := he.ex
  refine ⟨_, ps_expr (pe_bm PySem.F.plainAttrs_list PySem.F.slot_list_append PySem.F.type_list_append mt_append hv (pa_cons a1 pa_nil h1) hbase hfew hline h1 rfl) hs, fun {Hf0 H0 E σ Hf H} I {P} w D q => ?_⟩
  unfold mApp at w
  cases e : E[i]? with
  | none => rw [e] at w; exact absurd w wp_fail
  | some sl =>
    rw [e] at w
    cases sl with
    | ow ds =>
      obtain ⟨p, vs, e1, h1, h2, h3, r⟩ := I.at e
      refine ⟨.ref p, e1, .inl ⟨rfl, vs, .of h3⟩, ?_⟩
      refine a2 I (wp_bind w) _ fun d v Hf2 H2 w2 s2 o2 r2 => ?_
      have nb : ¬ isB bx p := fun z => I.b0 p z h1
      have h4 := s2.k p _ nb h3
      split at w2
      case isFalse => exact absurd w2 wp_fail
      case isTrue hl =>
      refine ⟨p, vs, v, rfl, rfl, h4, by rw [← r.length]; exact hl, q.nx _ _ _ _ (wp_pure w2) s2.f ?_⟩
      exact (I.step s2 o2).putS e trivial e1 ⟨p, _, rfl, h1, s2.n p h2 (by rw [h3]; simp), upd_same, (r.mono s2.f).append (.one r2)⟩ trivial
    | _ => exact absurd w wp_fail
end
end Fm
set_option Elab.async false
set_option linter.all false
set_option maxRecDepth 100000
set_option maxHeartbeats 2000000
set_option autoImplicit false
namespace Fm
open PySem PySem.Spec PyProof.Rows L2
open Evl (Ex ex_l ex_t ex_rd)
open WPM
/-! ### defs that compute -/
def nB : Addr → Prop := fun _ => False
def spP (K : PySem.W.Frag) (n : Nat) (mf : List D → Option D) : Sp := fun vs H Q _ => ∃ (Hf : Hp) (ds : List D) (d : D), Ex Hf H ∧ RpL K Hf ds vs ∧ ds.length = n ∧ mf ds = some d ∧ ∀ v Hf2 H2, Step nB Hf H Hf2 H2 → Rp K Hf2 d v → Q v H2
theorem Step.wk {B B' : Addr → Prop} {Hf H Hf2 H2 : Hp} (s : Step B Hf H Hf2 H2) (h : ∀ a, B a → B' a) : Step B' Hf H Hf2 H2 := ⟨s.f, s.i, s.n, fun a o nb e => s.k a o (fun z => nb (h a z)) e, s.l⟩
theorem BoxOk.call {bx : Bx} {Hf H Hf2 H2 : Hp} (h : BoxOk bx Hf H) (s : Step nB Hf H Hf2 H2) : BoxOk bx Hf2 H2 := by
  cases bx with
  | none => trivial
  | some q =>
    obtain ⟨b, c⟩ := q
    obtain ⟨h1, h2, h3, ns, i, j, h4, h5, h6⟩ := h
    exact ⟨h1, s.n b h2 (by rw [h4]; simp), s.n c h3 (by rw [h5]; simp), ns, i, j, s.k b _ id h4, s.k c _ id h5, h6⟩
def fin : Fl → Option D
  | .rt d => some d
  | .nx _ => some .non
  | _ => none
def startE (n : Nat) (ds : List D) : En := ds.map .sh ++ List.replicate (n - ds.length) .un
def mfOf (n : Nat) (ms : En → Option Fl) : List D → Option D := fun ds => (ms (startE n ds)).bind fin
theorem start_ok {K : PySem.W.Frag} {N : List Str} {Hf H : Hp} {ds : List D} {vs : List V} (i : Ex Hf H) (r : RpL K Hf ds vs) : EnvOk K none Hf H (startE N.length ds) (start N vs) Hf H := by
  have hl := r.length
  refine ⟨.refl i, trivial, fun a z => z.elim, ?_, fun j s e => ?_, fun j k s t p n e1 e2 o1 o2 v1 v2 => ?_⟩
  · unfold startE L2.start; simp [hl]
  · unfold startE at e
    by_cases q : j < ds.length
    · rw [List.getElem?_append_left (by simpa using q), List.getElem?_map] at e
      cases e1 : ds[j]? with
      | none => rw [e1] at e; cases e
      | some d =>
        rw [e1] at e; cases e
        obtain ⟨v, e2, r2⟩ := r.get' e1
        refine ⟨v, ?_, r2⟩
        unfold L2.start
        rw [List.getElem?_append_left (by simp; omega), List.getElem?_map, e2]; rfl
    · rw [List.getElem?_append_right (by simp; omega)] at e
      obtain ⟨_, rfl⟩ : _ ∧ s = .un := by
        have := List.mem_of_getElem? e
        exact ⟨trivial, List.eq_of_mem_replicate this⟩
      trivial
  · have sh : ∀ {j s}, (startE N.length ds)[j]? = some s → isOw s → False := fun {j s} e o => by
      unfold startE at e
      rcases List.mem_append.mp (List.mem_of_getElem? e) with m | m
      · obtain ⟨d, _, rfl⟩ := List.mem_map.mp m
        exact o
      · rw [List.eq_of_mem_replicate m] at o
        exact o
    exact sh e1 o1
/-- a def of the text, at its name -/
structure DefAt (K : PySem.W.Frag) (mg : Str → Option Value) (x : Str) (st : Stmt) : Prop where
  ex : ∃ f fd, Fun K x x st f fd ∧ mg x = some (.ref f)
structure Df (P : Program) (w : World) (K : PySem.W.Frag) (mg : Str → Option Value) (base : Heap) (k : Nat) (x : Str) (n : Nat) (mf : List D → Option D) : Prop where
  ex : ∃ f fd ps, FnOk P w K mg base CX0 k f fd ps (spP K n mf) ∧ mg x = some (.ref f) ∧ PySem.W.keepIn K (.ref f) = true ∧ Binds K fd ps []
section
variable {P : Program} {w : World} {K : PySem.W.Frag} {mg : Str → Option Value} {base : Heap} {k n : Nat} {x : Str} {st : Stmt} {N ps : List Str} {ms : En → Option Fl}
theorem Df.mono {j : Nat} {mf : List D → Option D} (h : Df P w K mg base j x n mf) (hk : j ≤ k) : Df P w K mg base k x n mf := let ⟨f, fd, ps, a, b⟩ := h.ex; ⟨f, fd, ps, a.mono hk, b⟩
theorem df_mk (T : DefAt K mg x st) (S : FnScope N ps (defScope st)) (hn : ps.length = n)
    (hb : ∀ (kV doc pm : Value) (an : Option Addr) (cdv ct : Value) (us : List Value), us.length = ps.length → bindArgs (PySem.W.fnOf x x (defArgs st) (defBody st) (defScope st) .none kV doc pm an cdv ct) ⟨us, []⟩ = pure (ps.zip us))
    (body : ∀ (f : Addr) (cdv : Value) (A : Around) (outer : List Env) (s : Shared) (H : Hp) (E : XK), Room k (A.deeper (envOfC x (defScope st) s.heap.objs.size f cdv)) → SsM (cxOf CX0 P w K mg base N x (defScope st) f cdv A outer s H E).nox none (defBody st) ms) :
    Df P w K mg base (k + 1) x n (mfOf N.length ms) := by
  obtain ⟨f, fd, F, hm⟩ := T.ex
  refine ⟨f, fd, ps, F.ok S (fun vs H Q E h => ?_) (fun cdv A outer s H vs Q E hr h => ?_), hm, F.kp, F.binds hb⟩
  · obtain ⟨Hf, ds, d, i, r, l, e, q⟩ := h
    rw [← r.length, l, hn]
  · obtain ⟨Hf, ds, d, i, r, l, e, q⟩ := h
    obtain ⟨ts, t1, t2⟩ := (body f cdv A outer s H E hr).ex
    refine ⟨ts, t1, t2 (start_ok i r) (P := fun fl => fin fl = some d) ?_ _ ⟨fun E' σ Hf2 H2 p _ I => ?_, fun d' v Hf2 H2 p st _ r2 => ?_, fun E' σ Hf2 H2 p _ I => ?_, fun E' σ Hf2 H2 p _ I => ?_⟩⟩
    · unfold mfOf at e
      cases e1 : ms (startE N.length ds) with
      | none => rw [e1] at e; cases e
      | some fl => rw [e1] at e; exact ⟨fl, rfl, e⟩
    · cases p
      exact q _ Hf2 H2 (I.st.wk fun a z => z) .non
    · cases p
      exact q _ Hf2 H2 (st.wk fun a z => z) r2
    · cases p
    · cases p
theorem df_none (T : DefAt K mg x st) (hn : ps.length = n)
    (hb : ∀ (kV doc pm : Value) (an : Option Addr) (cdv ct : Value) (us : List Value), us.length = ps.length → bindArgs (PySem.W.fnOf x x (defArgs st) (defBody st) (defScope st) .none kV doc pm an cdv ct) ⟨us, []⟩ = pure (ps.zip us)) :
    Df P w K mg base k x n (fun _ => none) := by
  obtain ⟨f, fd, F, hm⟩ := T.ex
  refine ⟨f, fd, ps, ⟨fun vs H Q E h => ?_, fun A outer s H args us vs Q E _ _ _ _ h => ?_⟩, hm, F.kp, F.binds hb⟩
  · obtain ⟨Hf, ds, d, i, r, l, e, q⟩ := h; cases e
  · obtain ⟨Hf, ds, d, i, r, l, e, q⟩ := h; cases e
end
section
variable {M : Type → Type} [WPM M] {X : Cx} {bx : Bx} {e : Expr} {es : List Expr} {ms : En → M (List Sl)} {pos p : Pos} {k n : Nat} {x : Str} {mf : List D → Option D}
def mCall (n : Nat) (mf : List D → Option D) (ms : En → M (List Sl)) : En → M D := fun E => ms E >>= fun ss => lift (shs ss) >>= fun ds => if ds.length = n then lift (mf ds) else fail
theorem pm_call (F : Df X.prog X.w X.K X.mg X.base k x n mf) (hr : Room k X.A) (hg : Gl X x) (ha : CM X bx (e :: es) ms) (hdb : (x == ("__debug__" : Str)) = false := by decide) (he : starEach (e :: es) X.env = (false, eval e X.env) :: starEach es X.env := by rfl) (hpl : (backTo pos (starEach es X.env)).any (·.1) = false := by rfl) :
    PM X bx (.Call (.Name x p) (e :: es) [] pos) (mCall n mf ms) := by
  obtain ⟨f, fd, ps, G, hm, hk, hb⟩ := F.ex
  obtain ⟨ta, a1, a2⟩ := ha.ex
  refine ⟨_, pe_call (dvs := []) (E := fun _ _ _ => False) G hr hg hm hk hb .nil pass0 a1 hdb he hpl, fun {Hf0 H0 E σ Hf H} I {P} w Q q => ?_⟩
  refine a2 I (wp_bind w) _ fun ss vs Hf2 H2 w2 s2 o2 r2 => ?_
  obtain ⟨ds, e1, w3⟩ := wp_lift (wp_bind w2)
  split at w3
  case isFalse => exact absurd w3 wp_fail
  case isTrue hl =>
  obtain ⟨d, e2, w4⟩ := wp_lift w3
  refine ⟨Hf2, ds, d, s2.i, ?_, hl, e2, fun v Hf3 H3 s3 r3 => q d v Hf3 H3 w4 (s2.trans (s3.wk fun _ z => z.elim)) (o2.call s3) r3⟩
  rw [List.append_nil]
  exact shs_of r2 e1
theorem pm_call0 (F : Df X.prog X.w X.K X.mg X.base k x 0 mf) (hr : Room k X.A) (hg : Gl X x) (hdb : (x == ("__debug__" : Str)) = false := by decide) : PM X bx (.Call (.Name x p) [] [] pos) (fun _ => lift (mf []) : En → M D) := by
  obtain ⟨f, fd, ps, G, hm, hk, hb⟩ := F.ex
  refine ⟨_, pe_call0 (dvs := []) (E := fun _ _ _ => False) G hr hg hm hk hb .nil pass0 hdb, fun {Hf0 H0 E σ Hf H} I {P} w Q q => ?_⟩
  obtain ⟨d, e2, w4⟩ := wp_lift w
  exact ⟨Hf, [], d, I.st.i, .nil, rfl, e2, fun v Hf3 H3 s3 r3 => q d v Hf3 H3 w4 (s3.wk fun _ z => z.elim) (I.box.call s3) r3⟩
end
end Fm
set_option Elab.async false
set_option linter.all false
set_option maxRecDepth 100000
set_option maxHeartbeats 2000000
set_option autoImplicit false
namespace Fm
open PySem PySem.Spec PyProof.Rows L2
open Evl (Ex ex_l ex_t ex_rd)
open WPM
/-! ### enumerate over a tuple -/
section
open PySem.Sem (wp)
open AutoSeq1 (wpAny_loadPart')
theorem meets_enumerate_newT (l : Addr) (items : Array Value) :
    Meets (Builtin.«enumerate.__new__» ⟨[.type "enumerate", .ref l], []⟩) (fun _ R s => s.heap.IsTuple l items ∧
      R (.ok (.ret (.ref (s.heap.push { cls := .type "tuple_iterator", data := .fields #[.ref l, .int 0 0] }).objs.size)))
        { s with heap := (s.heap.push { cls := .type "tuple_iterator", data := .fields #[.ref l, .int 0 0] }).push { cls := .type "enumerate", data := .fields #[.none, .bool false, .ref s.heap.objs.size, rawInt 0, .none, .none] } }) :=
  .of_wp fun prog w A R s h => by
    obtain ⟨hp, g, d, tk, os⟩ := s; obtain ⟨hL, h⟩ := h
    have hsub := sub_enumerate
    have ho := hL
    obtain ⟨o, hl, hcl, nn, hdd⟩ := ho
    wp_walk
    refine wpAny_stack_any fun st => wpAny_pure ?_
    split
    · rename_i c _ _ _ _ _
      cases (c == Value.type "enumerate")
      · wp_walk using wpAny_pyIter_tuple hL
        exact ⟨_, rfl, h⟩
      · wp_walk using wpAny_pyIter_tuple hL
        exact ⟨_, rfl, h⟩
    · wp_walk using wpAny_pyIter_tuple hL
      exact ⟨_, rfl, h⟩
theorem call_enumerate_tup {prog : Program} {w : World} {A : Around} {E : Value → Shared → Prop} {s : Shared} {l : Addr} {items : Array Value} {Q : Value → Shared → Prop} (hL : s.heap.IsTuple l items)
    (h : ∀ h', IsEnum h' (s.heap.objs.size + 1) s.heap.objs.size 0 .none → h'.IsTupleIter s.heap.objs.size l 0 → h'.objs.size = s.heap.objs.size + 2 →
      (∀ b o, s.heap.get? b = some o → h'.get? b = some o) → Q (.ref (s.heap.objs.size + 1)) { s with heap := h' }) :
    wpAny (model prog w) A (call (.type "enumerate") [.ref l]) Q E s := by
  refine callType_new F.called_enumerate (by decide) (F.typeCall_enumerate_1 _) (F.newCall_enumerate_1 _) (fun obj => F.args_object_init_2 obj _) F.entry_enumerate_new
    (meets_enumerate_newT l items) ⟨hL, ?_⟩
  have hz : (s.heap.push { cls := .type "tuple_iterator", data := .fields #[.ref l, .int 0 0] }).objs.size = s.heap.objs.size + 1 := Heap.size_push ..
  show _ ∧ _
  rw [hz]
  have he : IsEnum ((s.heap.push { cls := .type "tuple_iterator", data := .fields #[.ref l, .int 0 0] }).push
      { cls := .type "enumerate", data := .fields #[.none, .bool false, .ref s.heap.objs.size, rawInt 0, .none, .none] }) (s.heap.objs.size + 1) s.heap.objs.size 0 .none := by
    have := Heap.get?_push_size (s.heap.push { cls := .type "tuple_iterator", data := .fields #[.ref l, .int 0 0] })
      (o := { cls := .type "enumerate", data := .fields #[.none, .bool false, .ref s.heap.objs.size, rawInt 0, .none, .none] }) rfl
    rw [hz] at this; exact this
  refine ⟨⟨_, he, rfl⟩, h _ he ⟨_, Heap.get?_push_of_some _ (Heap.get?_push_size _ rfl), rfl, rfl⟩ (by rw [Heap.size_push, hz]) fun b o x => Heap.get?_push_of_some _ (Heap.get?_push_of_some _ x)⟩
end
theorem pyNext_enumT_end {prog : Program} {w : World} {A : Around} {E : Value → Shared → Prop} {s : Shared} {e it l : Addr} {i : Nat} {items : Array Value} {old : Value} {Q : Option Value → Shared → Prop} (hh : A.handled = none)
    (he : IsEnum s.heap e it i old) (hit : s.heap.IsTupleIter it l i) (hl : s.heap.IsTuple l items) (hx : items[i]? = none)
    (hQ : ∀ h', Heap.ExtBut it s.heap h' → Q none { s with heap := h' }) : wpAny (model prog w) A (pyNext (.ref e)) Q E s := by
  have hT : s.TypeIs (.ref e) "enumerate" := ⟨_, he, rfl⟩
  unfold pyNext
  refine wpAny_bind (wpAny_attempt (wpAny_callSpecial?_slot (name := Str.ofString "__next__") hT F.slot_enumerate_next
    (wpAny_call_entry F.slot_enumerate_next hT F.entry_enumerate_next ?_ (F.args_enumerate_next_1 _))))
  show wpAny _ _ (field (.ref e) 2 >>= _) _ _ _
  refine wpAny_bind (wpAny_field he rfl (x := .ref it) rfl ?_)
  refine wpAny_bind (RZ.nextOf_tuple_end (A := A.in1) hh hit hl hx fun h' x he' hx' => ?_)
  obtain ⟨o, ho, hc⟩ := hx'
  refine wpAny_bind (wpAny_isInstance (T := "StopIteration") (b := true) ⟨o, ho, hc⟩ isSubtype_stop ?_)
  exact wpAny_pure (hQ _ he')
def IteT (K : PySem.W.Frag) (a : Addr) : It :=
  ⟨fun i H => ∃ (xs : List V) (x : V), SqT K H a xs ∧ xs[i]? = some x, fun i H v H' => ∃ T x, v = .ref T ∧ H T = none ∧ H' = upd H T (.tup [.int (i : Nat), x]) ∧ ∀ xs, SqT K H a xs → xs[i]? = some x, fun i H => ∃ xs : List V, SqT K H a xs ∧ xs.length ≤ i⟩
theorem turn_enumT {P : Program} {w : World} {K : PySem.W.Frag} {elts : List Expr} {kk : Nat} {tpos : Pos} (a e it : Addr) :
    Turn P w K (.Tuple elts kk tpos) (IteT K a) [e, it] e (fun i h => (∃ old, IsEnum h e it ((i : Nat) : Int) old) ∧ h.IsTupleIter it a i ∧ e ≠ it) where
  mem := by simp
  obj := fun i h st b hb => by
    obtain ⟨⟨old, he⟩, ⟨o, ho, hc, hd⟩, _⟩ := st
    have e' : b = e ∨ b = it := by simpa using hb
    rcases e' with z | z
    · rw [z]; exact ⟨_, he, fun v q => nomatch q⟩
    · rw [z]; exact ⟨o, ho, fun v q => by rw [hd] at q; cases q⟩
  keep := fun i h h' st k => let ⟨⟨old, he⟩, hi, hne⟩ := st; ⟨⟨old, k e (by simp) _ he⟩, hi.at fun o q => k it (by simp) o q, hne⟩
  item := by
    intro X hP hw hK hc i pins s σ H E I hf st hg
    subst hP hw hK
    obtain ⟨⟨old, he⟩, hit, hne⟩ := st
    obtain ⟨xs, x, hq, hx⟩ := hg
    obtain ⟨its, rv, p, hz⟩ := I.tuple hq
    obtain ⟨u, hu, ru⟩ := rv.get hx
    have hel : e < s.heap.objs.size := Heap.lt_size he
    have hil : it < s.heap.objs.size := by obtain ⟨_, q, _⟩ := hit; exact Heap.lt_size q
    have p' : s.heap.IsTuple a its.toArray := p
    have nae : a ≠ e := fun z => by
      obtain ⟨o, ho, hcl, _⟩ := p'
      rw [z] at ho
      have := ho.symm.trans he
      cases this
      exact absurd hcl (by intro z; injection z with z; exact absurd z (by decide))
    have nai : a ≠ it := fun z => by
      obtain ⟨o, ho, hcl, _⟩ := p'
      obtain ⟨o2, ho2, hcl2, _⟩ := hit
      rw [z] at ho
      have := ho.symm.trans ho2
      cases this
      have := hcl.symm.trans hcl2
      exact absurd this (by intro z; injection z with z; exact absurd z (by decide))
    have hlen : i < its.toArray.size := by
      have := (List.getElem?_eq_some_iff.mp hu).1
      simpa using this
    have hne' : e ∉ [it, a] := by simp only [List.mem_cons, List.not_mem_nil, or_false, not_or]; exact ⟨hne, Ne.symm nae⟩
    refine wpAny_pyNext_enum_itemD (Draws.tuple (A := X.A.in1) (I.ok.hd hc) it a nai its.toArray) he ⟨hit, p'⟩ hlen hne hne' fun x' h' tk hx' ho hit' hT hsz hk => ?_
    obtain rfl : x' = u := by
      have : its.toArray[i]? = some u := by simpa using hu
      rw [this] at hx'; exact (Option.some.inj hx').symm
    refine ⟨_, rfl, wpAny_letOwnedTupleGo_enum (s := { s with heap := h', toks := tk + 1 }) ho fun h'' he' sb => ?_⟩
    have hT2 : h''.get? s.heap.objs.size = some { cls := .type "tuple", data := .seq #[.int i tk, x'] } := (sb.2 _ (Nat.ne_of_gt hel)).trans hT
    have new : ObjOk X.prog X.w (upd H s.heap.objs.size (.tup [.int (i : Nat), x])) h'' s.heap.objs.size (.tup [.int (i : Nat), x]) :=
      ⟨by show 2 ≤ sizeLine; decide, [.int i tk, x'], .cons ⟨_, rfl⟩ (.cons ru .nil), ⟨_, hT2, rfl, _, rfl⟩⟩
    have I1 : Inv X pins σ (upd H s.heap.objs.size (.tup [.int (i : Nat), x])) { s with heap := h'', toks := tk + 1 } :=
      I.turnedNew (ch := [e, it]) (fun b ob hb q => (sb.2 b (fun z => hb (by simp [z]))).trans (hk b ob (fun z => hb (by simp [z])) (fun z => hb (by simp [z])) q)) hf (Nat.le_refl _) new
    refine ⟨.ref s.heap.objs.size, _, I1, rfl, ⟨_, x, rfl, I.hok.fresh (Nat.le_refl _), rfl, fun ys hy => by rw [I.tuple_inj hy hq]; exact hx⟩, ⟨⟨x', ?_⟩, hit'.1.at fun o q => (sb.2 it (Ne.symm hne)).trans q, hne⟩, fun b hb => ?_⟩
    · have e1 : ((i + 1 : Nat) : Int) = (i : Int) + 1 := by omega
      rw [e1]; exact he'
    · have hb' : b < s.heap.objs.size := by
        have e' : b = e ∨ b = it := by simpa using hb
        rcases e' with z | z
        · rw [z]; exact hel
        · rw [z]; exact hil
      rw [upd_ne (Nat.ne_of_lt hb')]
      exact (hf b hb).1
  done := by
    intro X hP hw hK hc i pins s σ H E I hf st hg
    subst hP hw hK
    obtain ⟨⟨old, he⟩, hit, hne⟩ := st
    obtain ⟨xs, hq, hx⟩ := hg
    obtain ⟨its, rv, p, hz⟩ := I.tuple hq
    obtain ⟨f0, f1, f2, f3, f4, f5⟩ := hf it (by simp)
    have hl := rv.length
    exact pyNext_enumT_end (I.ok.hd hc) he hit p (by simp; omega) fun h' eb => ⟨rfl, I.turned (t' := s.toks) (fun b o hb q => eb b o hb q) f0 f1 f3 f4 f5⟩
  self := fun A i s Q E st h => let ⟨⟨_, he⟩, _⟩ := st; wpAny_pyIter_enum he h
theorem walk_enumT {K : PySem.W.Frag} {a : Addr} {xs : List V} : Walk (IteT K a) xs.length (fun H => SqT K H a xs) (YPair (fun i => some (.int (i : Nat))) (fun i => xs[i]?)) := by
  refine ⟨fun i _ hi q => ⟨xs, xs[i], q, by simp [hi]⟩, fun _ q => ⟨xs, q, Nat.le_refl _⟩, fun i H v H' _ q y => ?_⟩
  obtain ⟨T, x, h1, h2, h3, h4⟩ := y
  exact ⟨T, .int (i : Nat), x, h1, h2, h3, rfl, h4 xs q⟩
theorem walk_zipT {K : PySem.W.Frag} {a b : Addr} {xs ys : List V} {n : Nat} (hn : n = min xs.length ys.length) : Walk (RZ.ItzT K a b) n (fun H => SqT K H a xs ∧ SqT K H b ys) (YPair (fun i => xs[i]?) (fun i => ys[i]?)) := by
  subst hn
  refine ⟨fun i _ hi q => ?_, fun _ q => ⟨xs, ys, q.1, q.2, by omega⟩, fun i H v H' _ q y => ?_⟩
  · have h1 : i < xs.length := by omega
    have h2 : i < ys.length := by omega
    exact ⟨xs, ys, xs[i], ys[i], q.1, q.2, by simp [h1], by simp [h2]⟩
  · obtain ⟨T, x, z, h1, h2, h3, h4, h5⟩ := y
    exact ⟨T, x, z, h1, h2, h3, h4 xs q.1, h5 ys q.2⟩
section
variable {X : Cx} {e e2 : Expr} {p pos tpos : Pos} {elts : List Expr} {kk : Nat}
def iEnumT (K : PySem.W.Frag) (ta : TA) : TI := fun σ H R => ta σ H fun vs H1 => ∃ a xs, vs = [.ref a] ∧ SqT K H1 a xs ∧ R (IteT K a) H1
theorem pi_enumT {ta : TA} (hg : Gl X "enumerate") (hm : X.mg "enumerate" = none) (ha : PA X [e] ta) (hs : starEach [e] X.env = [(false, eval e X.env)] := by rfl) :
    PI X (.Tuple elts kk tpos) (.Call (.Name "enumerate" p) [e] [] pos) (iEnumT X.K ta) := by
  refine ⟨fun pins s σ H R I h => ?_⟩
  refine Call_ (ld_blt I hg hm boot_enumerate (PyProof.Rows.callWith_type1 (thn (ha.run pos pins s σ H _ I h) fun us s1 ⟨vs, H1, I1, r1, q1⟩ => ?_) hs rfl))
  obtain ⟨a, xs, ex, hq, q⟩ := q1
  subst ex
  cases r1 with
  | cons r rr =>
    cases rr
    cases r
    obtain ⟨its, rv, p', hz⟩ := I1.tuple hq
    refine call_enumerate_tup (show s1.heap.IsTuple a its.toArray from p') fun h' he hit hsz hk => wpAny_pyIter_enum he ?_
    have I2 : Inv X pins σ H1 { s1 with heap := h' } := I1.kept (t' := s1.toks) hk
    refine ⟨s1.heap.objs.size + 1, [s1.heap.objs.size + 1, s1.heap.objs.size], _, _, H1, rfl, I2, turn_enumT a (s1.heap.objs.size + 1) s1.heap.objs.size, ⟨⟨.none, he⟩, hit, Nat.succ_ne_self _⟩, fun b hb => ?_, q⟩
    have e' : b = s1.heap.objs.size + 1 ∨ b = s1.heap.objs.size := by simpa using hb
    have hle : s1.heap.objs.size ≤ b := by
      rcases e' with z | z
      · rw [z]; exact Nat.le_add_right _ _
      · rw [z]; exact Nat.le_refl _
    exact I1.fpOk hle (I1.hok.fresh hle)
end
/-! pairs -/
def zipD : List D → List D → List D
  | x :: xs, y :: ys => .tup [x, y] :: zipD xs ys
  | _, _ => []
theorem zipD_get : ∀ (xs ys : List D) (i : Nat), (zipD xs ys)[i]? = match xs[i]?, ys[i]? with
    | some x, some y => some (.tup [x, y])
    | _, _ => none
  | [], ys, i => by simp [zipD]
  | x :: xs, [], i => by cases i <;> simp [zipD] <;> split <;> simp_all
  | x :: xs, y :: ys, 0 => by simp [zipD]
  | x :: xs, y :: ys, i + 1 => by simpa [zipD] using zipD_get xs ys i
theorem zipD_length : ∀ (xs ys : List D), (zipD xs ys).length = min xs.length ys.length
  | [], ys => by simp [zipD]
  | x :: xs, [] => by simp [zipD]
  | x :: xs, y :: ys => by simp [zipD, zipD_length xs ys]
section
variable {K : PySem.W.Frag} {bx : Bx}
theorem it_pair {J : It} {G : Hp → Prop} {n : Nat} {fx fy : Nat → Option V} {ds : List D} {Hf : Hp} (w : Walk J n G (YPair fx fy)) (hn : ds.length = n) (hG : ∀ Hf' H, Ex Hf Hf' → Ex Hf' H → G H)
    (h : ∀ i x y, i < n → fx i = some x → fy i = some y → ∃ a b, ds[i]? = some (.tup [a, b]) ∧ Rp K Hf a x ∧ Rp K Hf b y) : ItOk K bx J ds Hf := by
  unfold ItOk
  rw [hn]
  refine w.mono (fun H ⟨Hf', e1, e2⟩ => hG Hf' H e1 e2) fun i H x H' hi _ y => ?_
  obtain ⟨T, x1, y1, rfl, hT, rfl, h1, h2⟩ := y
  intro Hf' e1 e2
  obtain ⟨a, b, h3, ra, rb⟩ := h i x1 y1 hi h1 h2
  refine ⟨_, _, .new e2 hT, fun bo => bo.new hT, h3, .tup (.of upd_same) ?_⟩
  have x2 : Ex Hf (upd Hf' T (.tup [x1, y1])) := e1.trans (Ex.new (Evl.fresh_back e2 hT))
  exact .cons (ra.mono x2) (.cons (rb.mono x2) .nil)
theorem it_zipT {Hf : Hp} {a b : Addr} {xs ys : List D} {vs us : List V} (h1 : SqT K Hf a vs) (h2 : SqT K Hf b us) (r1 : RpL K Hf xs vs) (r2 : RpL K Hf ys us) : ItOk K bx (RZ.ItzT K a b) (zipD xs ys) Hf := by
  refine it_pair (walk_zipT (K := K) (a := a) (b := b) (xs := vs) (ys := us) rfl) (by rw [zipD_length, r1.length, r2.length]) (fun Hf' H e1 e2 => ⟨ex_t (e1.trans e2) h1, ex_t (e1.trans e2) h2⟩) fun i x y _ e1 e2 => ?_
  obtain ⟨d1, q1, p1⟩ := r1.get e1
  obtain ⟨d2, q2, p2⟩ := r2.get e2
  exact ⟨d1, d2, by rw [zipD_get, q1, q2], p1, p2⟩
theorem it_zipL {Hf : Hp} {a b : Addr} {xs ys : List D} {vs us : List V} (h1 : Hf a = some (.lst vs)) (h2 : Hf b = some (.lst us)) (r1 : RpL K Hf xs vs) (r2 : RpL K Hf ys us) : ItOk K bx (Itz K a b) (zipD xs ys) Hf := by
  refine it_pair (walk_zip (K := K) (a := a) (b := b) (xs := vs) (ys := us) rfl) (by rw [zipD_length, r1.length, r2.length]) (fun Hf' H e1 e2 => ⟨.of (e2 _ _ (e1 _ _ h1)), .of (e2 _ _ (e1 _ _ h2))⟩) fun i x y _ e1 e2 => ?_
  obtain ⟨d1, q1, p1⟩ := r1.get e1
  obtain ⟨d2, q2, p2⟩ := r2.get e2
  exact ⟨d1, d2, by rw [zipD_get, q1, q2], p1, p2⟩
theorem it_enumT {Hf : Hp} {a : Addr} {xs : List D} {vs : List V} (h1 : SqT K Hf a vs) (r1 : RpL K Hf xs vs) : ItOk K bx (IteT K a) (zipD (rngD 0 xs.length) xs) Hf := by
  refine it_pair (walk_enumT (K := K) (a := a) (xs := vs)) (by rw [zipD_length]; simp [rngD, r1.length]) (fun Hf' H e1 e2 => ex_t (e1.trans e2) h1) fun i x y hi e1 e2 => ?_
  cases e1
  obtain ⟨d2, q2, p2⟩ := r1.get e2
  refine ⟨.int i, d2, ?_, .int _, p2⟩
  have hl : i < xs.length := by rw [r1.length]; exact hi
  rw [zipD_get, q2]
  simp [rngD, hl]
end
section
variable {M : Type → Type} [WPM M] {X : Cx} {bx : Bx} {a b : Expr} {ma mb : En → M D} {p pos tpos : Pos} {elts : List Expr} {kk : Nat} {ms : En → M (List Sl)}
def zip2 : List D → Option (List D)
  | [.tup x, .tup y] => some (zipD x y)
  | [.lst x, .lst y] => some (zipD x y)
  | _ => none
def mZip (ms : En → M (List Sl)) : En → M (List D) := fun E => ms E >>= fun ss => lift (shs ss) >>= fun ds => lift (zip2 ds)
theorem im_zip (hg : Gl X "zip") (hm : X.mg "zip" = none) (ha : CM X bx [a, b] ms) (hs : starEach [a, b] X.env = (false, eval a X.env) :: starEach [b] X.env := by rfl) (hpl : (backTo pos (starEach [b] X.env)).any (·.1) = false := by rfl) :
    IM X bx (.Tuple elts kk tpos) (.Call (.Name "zip" p) [a, b] [] pos) (mZip ms) := by
  obtain ⟨ta, a1, a2⟩ := ha.ex
  refine ⟨_, RZ.pi_zipA hg hm a1 hs hpl, fun {Hf0 H0 E σ Hf H} I {P} w R q => ?_⟩
  refine a2 I (wp_bind w) _ fun ss vs Hf2 H2 w2 s2 o2 r2 => ?_
  obtain ⟨ds, e1, w3⟩ := wp_lift (wp_bind w2)
  obtain ⟨its, e2, p⟩ := wp_lift w3
  have r3 := shs_of r2 e1
  match ds, e2, r3 with
  | [.tup x, .tup y], e2, .cons ra (.cons rb .nil) =>
    cases e2
    cases ra with
    | tup h1 r1 =>
      cases rb with
      | tup h2 r4 => exact ⟨_, _, _, _, rfl, .inr ⟨ex_t s2.i h1, ex_t s2.i h2, q _ _ Hf2 H2 p s2 o2 (it_zipT h1 h2 r1 r4)⟩⟩
  | [.lst x, .lst y], e2, .cons ra (.cons rb .nil) =>
    cases e2
    cases ra with
    | lst h1 r1 =>
      cases rb with
      | lst h2 r4 => exact ⟨_, _, _, _, rfl, .inl ⟨.of (s2.i _ _ h1), .of (s2.i _ _ h2), q _ _ Hf2 H2 p s2 o2 (it_zipL h1 h2 r1 r4)⟩⟩
def enum1 : List D → Option (List D)
  | [.tup x] => some (zipD (rngD 0 x.length) x)
  | _ => none
def mEnum (ms : En → M (List Sl)) : En → M (List D) := fun E => ms E >>= fun ss => lift (shs ss) >>= fun ds => lift (enum1 ds)
theorem im_enum (hg : Gl X "enumerate") (hm : X.mg "enumerate" = none) (ha : CM X bx [a] ms) (hs : starEach [a] X.env = [(false, eval a X.env)] := by rfl) :
    IM X bx (.Tuple elts kk tpos) (.Call (.Name "enumerate" p) [a] [] pos) (mEnum ms) := by
  obtain ⟨ta, a1, a2⟩ := ha.ex
  refine ⟨_, pi_enumT hg hm a1 hs, fun {Hf0 H0 E σ Hf H} I {P} w R q => ?_⟩
  refine a2 I (wp_bind w) _ fun ss vs Hf2 H2 w2 s2 o2 r2 => ?_
  obtain ⟨ds, e1, w3⟩ := wp_lift (wp_bind w2)
  obtain ⟨its, e2, p⟩ := wp_lift w3
  have r3 := shs_of r2 e1
  match ds, e2, r3 with
  | [.tup x], e2, .cons ra .nil =>
    cases e2
    cases ra with
    | tup h1 r1 => exact ⟨_, _, rfl, ex_t s2.i h1, q _ _ Hf2 H2 p s2 o2 (it_enumT h1 r1)⟩
end
end Fm
set_option Elab.async false
set_option linter.all false
set_option maxRecDepth 100000
set_option maxHeartbeats 2000000
set_option autoImplicit false
namespace Fm
open PySem PySem.Spec PyProof.Rows L2
open Evl (Ex ex_l ex_t ex_rd)
open WPM
theorem it_w {J : It} {n : Nat} {G : Hp → Prop} {Y : Nat → Hp → V → Hp → Prop} (w : Walk J n G Y) {B : (Hp → Prop) → V → Hp → Prop} {H0 : Hp} {Qd : Hp → Prop} (Pv : Nat → Hp → Prop) (h0 : Pv 0 H0) (hG : ∀ i H, i ≤ n → Pv i H → G H)
    (hs : ∀ i x H H', i < n → Pv i H → Y i H x H' → B (Pv (i + 1)) x H') (hd : ∀ H, Pv n H → Qd H) :
    ∃ W : Nat → Nat → Hp → Prop, (∃ m, W 0 m H0) ∧ ∀ i m H, W i m H → (J.stop i H ∧ Qd H) ∨ (J.go i H ∧ ∃ Nx : Hp → Prop, (∀ H', Nx H' → ∃ m', m' < m ∧ W (i + 1) m' H') ∧ ∀ x H', J.yld i H x H' → B Nx x H') := by
  refine ⟨fun i m H => m = n - i ∧ i ≤ n ∧ Pv i H, ⟨n, by simp, Nat.zero_le _, h0⟩, ?_⟩
  rintro i m H ⟨rfl, hi, p⟩
  have q := hG i H hi p
  by_cases hlt : i < n
  · refine .inr ⟨w.goes i H hlt q, Pv (i + 1), fun H' p' => ⟨n - (i + 1), by omega, rfl, hlt, p'⟩, fun x H' y => hs i x H H' hlt p (w.yields i H x H' hlt q y)⟩
  · have e : i = n := by omega
    subst e
    exact .inl ⟨w.stops H q, hd H p⟩
section
variable {M : Type → Type} [WPM M]
def compL2 (f : D → En → Option En) (mt : En → M Bool) (mi1 : En → M (List D)) (vs1 : List Nat) (f1 : D → En → Option En) (mt1 : En → M Bool) (me : En → M D) (E : En) : List D → List D → M (List D)
  | [], acc => pure acc
  | d :: ds, acc => lift (f d E) >>= fun E2 => mt E2 >>= fun b => if b then mi1 E2 >>= fun ds1 => if acc.length + ds1.length ≤ sizeLine then compL f1 mt1 me (wipeE E2 vs1) ds1 acc >>= fun acc => compL2 f mt mi1 vs1 f1 mt1 me E ds acc else fail else compL2 f mt mi1 vs1 f1 mt1 me E ds acc
def mComp2 (mi : En → M (List D)) (ws : List Nat) (f : D → En → Option En) (mt : En → M Bool) (mi1 : En → M (List D)) (vs1 : List Nat) (f1 : D → En → Option En) (mt1 : En → M Bool) (me : En → M D) : En → M D := fun E => mi E >>= fun ds => compL2 f mt mi1 vs1 f1 mt1 me (wipeE E ws) ds [] >>= fun acc => pure (.lst acc)
variable {X : Cx} {bx : Bx} {elt tg iter tg1 iter1 : Expr} {ifs ifs1 : List Expr} {mi mi1 : En → M (List D)} {mt mt1 : En → M Bool} {me : En → M D} {f f1 : D → En → Option En} {js js1 : List Nat} {pos : Pos}
theorem comp2_ev {K : PySem.W.Frag} {wi : TI} {ws vs1 : List Nat} (i2 : IvM K bx wi mi) (hj : ∀ j ∈ js, j ∈ ws) (hj1 : ∀ j ∈ js1, j ∈ vs1) {Hf0 H0 : Hp} {E : En} {σ : L2.St} {Hf H : Hp} (I : EnvOk K bx Hf0 H0 E σ Hf H) {P : Fm.D → Prop} (w : wp (mComp2 mi ws f mt mi1 vs1 f1 mt1 me E) P) (Q : VK)
    (q : ∀ d v Hf2 H2, P d → Step (isB bx) Hf H Hf2 H2 → BoxOk bx Hf2 H2 → Rp K Hf2 d v → Q v H2) : tLc2 wi (cG K bx f js) (cT K bx mt) (cI K bx mi1) (cG K bx f1 js1) (cT K bx mt1) (cE K bx me) ws vs1 σ H Q := by
  refine i2 I (wp_bind w) _ fun ds J Hf1 H1 w1 s1 b1 it => ?_
  intro D hD
  have nb : ¬ isB bx D := fun z => (I.step s1 b1).st.l D (I.b0 D z) hD
  have I1 := (I.step s1 b1).wipe ws
  refine it_w it (fun i H => ∃ Hf' acc, CI K bx Hf1 H1 D acc Hf' H ∧ wp (compL2 f mt mi1 vs1 f1 mt1 me (wipeE E ws) (ds.drop i) acc) fun a => wp (pure (.lst a) : M Fm.D) P)
    ⟨Hf1, [], .new s1.i b1 hD nb, wp_bind w1⟩ (fun i H _ ⟨Hf', acc, c, _⟩ => ⟨Hf', c.st.f, c.st.i⟩) (fun i x Ha Hb hin p y => ?_) (fun Hz ⟨Hf', acc, c, wz⟩ => ?_)
  · obtain ⟨Hf', acc, c, wz⟩ := p
    obtain ⟨Hf2, d, s2, b2, ed, r2⟩ := y Hf' c.st.f c.st.i
    have c2 := c.step nb s2 (b2 c.bo)
    have I2 : EnvOk K bx Hf0 H0 (wipeE E ws) (wipe σ ws) Hf2 Hb := I1.step c2.st c2.bo
    rw [(List.drop_eq_getElem_cons hin).trans (by rw [List.getElem?_eq_getElem hin] at ed; cases ed; rfl : ds[i] :: ds.drop (i + 1) = d :: ds.drop (i + 1))] at wz
    unfold compL2 at wz
    obtain ⟨E2, e2, wz⟩ := wp_lift (wp_bind wz)
    refine ⟨Hf0, H0, _, E2, Hf2, d, I2, r2, e2, fun σ' I3 hw tr => ⟨(hw ws hj).trans wipe_idem, ?_⟩⟩
    refine ⟨Hf0, H0, E2, Hf2, _, I3, wp_bind wz, fun b Hf3 H3 w3 s3 b3 => ?_⟩
    have c3 := c2.step nb s3 b3
    cases b with
    | false => exact ⟨Hf3, acc, c3, w3⟩
    | true =>
      have I4 := I3.step s3 b3
      refine ⟨Hf0, H0, E2, Hf3, _, I4, wp_bind w3, fun ds1 J1 Hf4 H4 w4 s4 b4 it1 => ?_⟩
      have c4 := c3.step nb s4 b4
      split at w4
      case isFalse => exact absurd w4 wp_fail
      case isTrue hlen =>
      refine it_w it1 (fun j H => ∃ Hf' acc', CI K bx Hf1 H1 D acc' Hf' H ∧ Ex Hf4 Hf' ∧ acc'.length ≤ acc.length + j ∧ wp (compL f1 mt1 me (wipeE E2 vs1) (ds1.drop j) acc') fun acc => wp (compL2 f mt mi1 vs1 f1 mt1 me (wipeE E ws) (ds.drop (i + 1)) acc) fun a => wp (pure (.lst a) : M Fm.D) P)
        ⟨Hf4, acc, c4, Ex.refl _, by omega, wp_bind w4⟩ (fun j H _ ⟨Hf', acc', c', x', _⟩ => ⟨Hf', x', c'.st.i⟩) (fun j x2 Hc Hd hjn p2 y2 => ?_) (fun Hz ⟨Hf', acc', c', x', _, wz⟩ => ?_)
      · obtain ⟨Hf5, acc', c5, x5, la, wz⟩ := p2
        obtain ⟨Hf6, d1, s6, b6, ed1, r6⟩ := y2 Hf5 x5 c5.st.i
        have c6 := c5.step nb s6 (b6 c5.bo)
        have I6 : EnvOk K bx Hf0 H0 (wipeE E2 vs1) (wipe σ' vs1) Hf6 Hd := (tr Hf6 Hd (((s3.f.trans s4.f).trans x5).trans s6.f) (I1.step c6.st c6.bo)).wipe vs1
        rw [(List.drop_eq_getElem_cons hjn).trans (by rw [List.getElem?_eq_getElem hjn] at ed1; cases ed1; rfl : ds1[j] :: ds1.drop (j + 1) = d1 :: ds1.drop (j + 1))] at wz
        unfold compL at wz
        obtain ⟨E3, e3, wz⟩ := wp_lift (wp_bind wz)
        refine ⟨Hf0, H0, _, E3, Hf6, d1, I6, r6, e3, fun σ3 I7 hw1 tr1 => ⟨(hw1 vs1 hj1).trans wipe_idem, ?_⟩⟩
        refine ⟨Hf0, H0, E3, Hf6, _, I7, wp_bind wz, fun b Hf7 H7 w7 s7 b7 => ?_⟩
        have c7 := c6.step nb s7 b7
        cases b with
        | false => exact ⟨Hf7, acc', c7, (x5.trans s6.f).trans s7.f, by omega, w7⟩
        | true =>
          refine ⟨Hf0, H0, E3, Hf7, _, I7.step s7 b7, wp_bind w7, fun y v Hf8 H8 w8 s8 b8 r8 => ?_⟩
          exact c7.push hD nb s8 b8 r8 (fun H => ∃ Hf' acc', CI K bx Hf1 H1 D acc' Hf' H ∧ Ex Hf4 Hf' ∧ acc'.length ≤ acc.length + (j + 1) ∧ wp (compL f1 mt1 me (wipeE E2 vs1) (ds1.drop (j + 1)) acc') fun acc => wp (compL2 f mt mi1 vs1 f1 mt1 me (wipeE E ws) (ds.drop (i + 1)) acc) fun a => wp (pure (.lst a) : M Fm.D) P) (by omega)
            fun H9 c9 => ⟨Hf8, _, c9, ((x5.trans s6.f).trans s7.f).trans s8.f, by simp; omega, w8⟩
      · have ez : ds1.drop ds1.length = [] := by simp
        rw [ez] at wz
        unfold compL at wz
        have wy := wp_pure wz
        exact ⟨Hf', acc', c', wy⟩
  · obtain ⟨Hf2, s2, b2, r2⟩ := c.done hD nb
    have ez : ds.drop ds.length = [] := by simp
    rw [ez] at wz
    unfold compL2 at wz
    have wy := wp_pure wz
    exact q _ _ Hf2 Hz (wp_pure wy) (s1.trans s2) b2 r2
theorem pm_comp2 {scope : Scope} {own : List (Str × Nat)} {vs1 : List Nat} (hc : X.calm = true) (hN : X.N.Nodup) (hi : IM X bx tg iter mi) (ok : BlkOk X.N X.env.scope scope own) (hv : ∀ i ∈ vs1, i ∈ own.map (·.2))
    (hg : ∀ (s : Shared) (H : Hp) (C : Addr) (cl : List (Str × Addr)) (fp : List Addr), GM (X.blk s H scope (compEnvC scope cl C X.env) fp) bx tg f js) (ht : ∀ (s : Shared) (H : Hp) (C : Addr) (cl : List (Str × Addr)) (fp : List Addr), TsM (X.blk s H scope (compEnvC scope cl C X.env) fp) bx ifs mt)
    (hi1 : ∀ (s : Shared) (H : Hp) (C : Addr) (cl : List (Str × Addr)) (fp : List Addr), IM (X.blk s H scope (compEnvC scope cl C X.env) fp) bx tg1 iter1 mi1)
    (hg1 : ∀ (s : Shared) (H : Hp) (C : Addr) (cl : List (Str × Addr)) (fp : List Addr), GM (X.blk s H scope (compEnvC scope cl C X.env) fp) bx tg1 f1 js1) (ht1 : ∀ (s : Shared) (H : Hp) (C : Addr) (cl : List (Str × Addr)) (fp : List Addr), TsM (X.blk s H scope (compEnvC scope cl C X.env) fp) bx ifs1 mt1)
    (he : ∀ (s : Shared) (H : Hp) (C : Addr) (cl : List (Str × Addr)) (fp : List Addr), PM (X.blk s H scope (compEnvC scope cl C X.env) fp) bx elt me) (hj : ∀ j ∈ js, j ∈ own.map (·.2)) (hj1 : ∀ j ∈ js1, j ∈ vs1) (hs : ∀ x, foldedSetIterable iter X.env x = pure x := by intro _; rfl) (hs1 : ∀ env x, foldedSetIterable iter1 env x = pure x := by intro _ _; rfl) :
    PM X bx (.ListComp elt [⟨tg, iter, ifs, 0⟩, ⟨tg1, iter1, ifs1, 0⟩] scope pos) (mComp2 mi (own.map (·.2)) f mt mi1 vs1 f1 mt1 me) := by
  obtain ⟨wi, i1, i2⟩ := hi.ex
  exact ⟨_, pe_lc2 (te := cE X.K bx me) (tt := cT X.K bx mt) (g := cG X.K bx f js) (wi1 := cI X.K bx mi1) (tt1 := cT X.K bx mt1) (g1 := cG X.K bx f1 js1) hc hN i1 ok hv (fun s H C cl fp => (hg s H C cl fp).can) (fun s H C cl fp => (ht s H C cl fp).ex) (fun s H C cl fp => (hi1 s H C cl fp).can) (fun s H C cl fp => (hg1 s H C cl fp).can) (fun s H C cl fp => (ht1 s H C cl fp).ex) (fun s H C cl fp => (he s H C cl fp).can) hs hs1, fun {Hf0 H0 E σ Hf H} I {P} w Q q => comp2_ev i2 hj hj1 I w Q q⟩
theorem sm_setLc (i : Nat) {y : Str} {py spos : Pos} {scope : Scope} {own : List (Str × Nat)} (hc : X.calm = true) (hN : X.N.Nodup) (hy : X.N[i]? = some y) (hyl : X.env.scope.names.lookup y = some .local) (hsw : swapsWith (.ListComp elt [⟨tg, iter, ifs, 0⟩] scope pos) (some (.Name y py)) spos.line X.env = pure true) (hi : IM X bx tg iter mi) (ok : BlkOk X.N X.env.scope scope own)
    (hg : ∀ (s : Shared) (H : Hp) (C : Addr) (cl : List (Str × Addr)) (fp : List Addr), GM (X.blk s H scope (compEnvC scope cl C X.env) fp) bx tg f js) (ht : ∀ (s : Shared) (H : Hp) (C : Addr) (cl : List (Str × Addr)) (fp : List Addr), TsM (X.blk s H scope (compEnvC scope cl C X.env) fp) bx ifs mt)
    (he : ∀ (s : Shared) (H : Hp) (C : Addr) (cl : List (Str × Addr)) (fp : List Addr), PM (X.blk s H scope (compEnvC scope cl C X.env) fp) bx elt me) (hj : ∀ j ∈ js, j ∈ own.map (·.2)) (hs : ∀ x, foldedSetIterable iter X.env x = pure x := by intro _; rfl) :
    SM X bx (.Assign [.Name y py] (.ListComp elt [⟨tg, iter, ifs, 0⟩] scope pos) spos) (mAsg (mComp mi (own.map (·.2)) f mt me) (fName i)) := by
  obtain ⟨wi, i1, i2⟩ := hi.ex
  refine ⟨_, ps_setLc (te := cE X.K bx me) (tt := cT X.K bx mt) (g := cG X.K bx f js) hc hN hy hyl hsw i1 ok (fun s H C cl fp => (hg s H C cl fp).can) (fun s H C cl fp => (ht s H C cl fp).ex) (fun s H C cl fp => (he s H C cl fp).can) hs, fun {Hf0 H0 E σ Hf H} I {P} w D q => ?_⟩
  refine comp_ev i2 hj I (wp_bind (wp_bind w)) _ fun acc D Hf1 H1 Hf2 H2 wz s1 hD nb c => ?_
  obtain ⟨Hf3, s2, b2, r2⟩ := c.done hD nb
  have wy := wp_pure wz
  obtain ⟨E', e1, w3⟩ := wp_lift (wp_bind wy)
  unfold fName at e1
  split at e1
  · cases e1
    exact q.nx _ _ _ _ (wp_pure w3) (s1.trans s2).f ((I.step (s1.trans s2) b2).set r2 (by assumption))
  · cases e1
theorem sm_setLcN (i : Nat) {y : Str} {py spos : Pos} {scope : Scope} {own : List (Str × Nat)} (hc : X.calm = true) (hN : X.N.Nodup) (hy : X.N[i]? = some y) (hyl : X.env.scope.names.lookup y = some .local) (hsw : swapsWith (.ListComp elt [⟨tg, iter, ifs, 0⟩] scope pos) (some (.Name y py)) spos.line X.env = pure true) (hi : IM X bx tg iter mi) (ok : BlkOk X.N X.env.scope scope own)
    (hg : ∀ (s : Shared) (H : Hp) (C : Addr) (cl : List (Str × Addr)) (fp : List Addr), GM (X.blk s H scope (compEnvC scope cl C X.env) fp) bx tg f js) (ht : ∀ (s : Shared) (H : Hp) (C : Addr) (cl : List (Str × Addr)) (fp : List Addr), TsM (X.blk s H scope (compEnvC scope cl C X.env) fp) bx ifs mt)
    (he : ∀ (s : Shared) (H : Hp) (C : Addr) (cl : List (Str × Addr)) (fp : List Addr), PM (X.blk s H scope (compEnvC scope cl C X.env) fp) bx elt me) (hj : ∀ j ∈ js, j ∈ own.map (·.2)) (hs : ∀ x, foldedSetIterable iter X.env x = pure x := by intro _; rfl) :
    SM X bx (.Assign [.Name y py] (.ListComp elt [⟨tg, iter, ifs, 0⟩] scope pos) spos) (mSetN i (nComp mi (own.map (·.2)) f mt me)) := by
  obtain ⟨wi, i1, i2⟩ := hi.ex
  refine ⟨_, ps_setLc (te := cE X.K bx me) (tt := cT X.K bx mt) (g := cG X.K bx f js) hc hN hy hyl hsw i1 ok (fun s H C cl fp => (hg s H C cl fp).can) (fun s H C cl fp => (ht s H C cl fp).ex) (fun s H C cl fp => (he s H C cl fp).can) hs, fun {Hf0 H0 E σ Hf H} I {P} w D q => ?_⟩
  refine comp_ev i2 hj I (wp_bind (wp_bind w)) _ fun acc D Hf1 H1 Hf2 H2 wz s1 hD nb c => ?_
  obtain ⟨vs, h1, h2⟩ := c.ls
  have wy := wp_pure wz
  obtain ⟨E', e1, w3⟩ := wp_lift (wp_bind wy)
  obtain ⟨hl, rfl⟩ := setE_of e1
  have st := s1.trans c.st
  exact q.nx _ _ _ _ (wp_pure w3) st.f ((I.step st c.bo).setS (Hs := H) (s := .ow acc) (v := .ref D) ⟨D, vs, rfl, none_back s1 hD, c.nf, h1, h2⟩ hl (fun p h => none_back I.st h) fun k t p n e o v => (I.live e o v).1)
theorem sm_setLc2 (i : Nat) {y : Str} {py spos : Pos} {scope : Scope} {own : List (Str × Nat)} {vs1 : List Nat} (hc : X.calm = true) (hN : X.N.Nodup) (hy : X.N[i]? = some y) (hyl : X.env.scope.names.lookup y = some .local) (hsw : swapsWith (.ListComp elt [⟨tg, iter, ifs, 0⟩, ⟨tg1, iter1, ifs1, 0⟩] scope pos) (some (.Name y py)) spos.line X.env = pure true) (hi : IM X bx tg iter mi) (ok : BlkOk X.N X.env.scope scope own) (hv : ∀ i ∈ vs1, i ∈ own.map (·.2))
    (hg : ∀ (s : Shared) (H : Hp) (C : Addr) (cl : List (Str × Addr)) (fp : List Addr), GM (X.blk s H scope (compEnvC scope cl C X.env) fp) bx tg f js) (ht : ∀ (s : Shared) (H : Hp) (C : Addr) (cl : List (Str × Addr)) (fp : List Addr), TsM (X.blk s H scope (compEnvC scope cl C X.env) fp) bx ifs mt)
    (hi1 : ∀ (s : Shared) (H : Hp) (C : Addr) (cl : List (Str × Addr)) (fp : List Addr), IM (X.blk s H scope (compEnvC scope cl C X.env) fp) bx tg1 iter1 mi1)
    (hg1 : ∀ (s : Shared) (H : Hp) (C : Addr) (cl : List (Str × Addr)) (fp : List Addr), GM (X.blk s H scope (compEnvC scope cl C X.env) fp) bx tg1 f1 js1) (ht1 : ∀ (s : Shared) (H : Hp) (C : Addr) (cl : List (Str × Addr)) (fp : List Addr), TsM (X.blk s H scope (compEnvC scope cl C X.env) fp) bx ifs1 mt1)
    (he : ∀ (s : Shared) (H : Hp) (C : Addr) (cl : List (Str × Addr)) (fp : List Addr), PM (X.blk s H scope (compEnvC scope cl C X.env) fp) bx elt me) (hj : ∀ j ∈ js, j ∈ own.map (·.2)) (hj1 : ∀ j ∈ js1, j ∈ vs1) (hs : ∀ x, foldedSetIterable iter X.env x = pure x := by intro _; rfl) (hs1 : ∀ env x, foldedSetIterable iter1 env x = pure x := by intro _ _; rfl) :
    SM X bx (.Assign [.Name y py] (.ListComp elt [⟨tg, iter, ifs, 0⟩, ⟨tg1, iter1, ifs1, 0⟩] scope pos) spos) (mAsg (mComp2 mi (own.map (·.2)) f mt mi1 vs1 f1 mt1 me) (fName i)) := by
  obtain ⟨wi, i1, i2⟩ := hi.ex
  refine ⟨_, ps_setLc2 (te := cE X.K bx me) (tt := cT X.K bx mt) (g := cG X.K bx f js) (wi1 := cI X.K bx mi1) (tt1 := cT X.K bx mt1) (g1 := cG X.K bx f1 js1) hc hN hy hyl hsw i1 ok hv (fun s H C cl fp => (hg s H C cl fp).can) (fun s H C cl fp => (ht s H C cl fp).ex) (fun s H C cl fp => (hi1 s H C cl fp).can) (fun s H C cl fp => (hg1 s H C cl fp).can) (fun s H C cl fp => (ht1 s H C cl fp).ex) (fun s H C cl fp => (he s H C cl fp).can) hs hs1, fun {Hf0 H0 E σ Hf H} I {P} w D q => ?_⟩
  refine comp2_ev i2 hj hj1 I (wp_bind w) _ fun d v Hf2 H2 w2 s2 b2 r2 => ?_
  obtain ⟨E', e1, w3⟩ := wp_lift (wp_bind w2)
  unfold fName at e1
  split at e1
  · cases e1
    exact q.nx _ _ _ _ (wp_pure w3) s2.f ((I.step s2 b2).set r2 (by assumption))
  · cases e1
end
end Fm
set_option Elab.async false
set_option linter.all false
set_option maxRecDepth 100000
set_option maxHeartbeats 2000000
set_option autoImplicit false
namespace Fm
open PySem PySem.Spec PyProof.Rows L2
open Evl (Ex ex_l ex_t ex_rd)
open WPM
theorem u65_of {A : Around} {k : Nat} (hr : Room k A) : A.units + 65 < cLine := by have := hr.un; omega
theorem u64_of {A : Around} {k : Nat} (hr : Room k A) : A.units + 64 < cLine := by have := hr.un; omega
theorem u1_of {A : Around} {k : Nat} (hr : Room k A) : A.units + 1 < cLine := by have := hr.un; omega
theorem u0_of {A : Around} {k : Nat} (hr : Room k A) : A.units < cLine := by have := hr.un; omega
/-! ### what is never come to -/
section
variable {M : Type → Type} [WPM M] {X : Cx} {bx : Bx} {e a b c o i : Expr} {es : List Expr} {ma mb mc me : En → M D} {mn : En → M Sl} {pos : Pos}
def mNo {α : Type} : En → M α := fun _ => fail
theorem pm_no : PM X bx e (mNo : En → M D) := ⟨fun _ _ _ => False, ⟨fun _ _ _ _ _ _ h => h.elim⟩, fun {Hf0 H0 E σ Hf H} I {P} w Q q => absurd w wp_fail⟩
theorem tm_no : TM X bx e (mNo : En → M Bool) := ⟨fun _ _ _ => False, ⟨fun _ _ _ _ _ _ h => h.elim⟩, fun {Hf0 H0 E σ Hf H} I {P} w Q q => absurd w wp_fail⟩
/-! ### names of the module -/
structure GlobOk (K : PySem.W.Frag) (mg : Str → Option Value) (x : Str) (d : D) : Prop where
  ex : ∃ v u, mg x = some u ∧ RelV v u ∧ ∀ H, Rp K H d v
theorem pm_g {x : Str} {d : D} (h : GlobOk X.K X.mg x d) (hg : Gl X x) (hd : (x == ("__debug__" : Str)) = false := by decide) : PM X bx (.Name x pos) (mC d : En → M D) := by
  obtain ⟨v, u, h1, h2, h3⟩ := h.ex
  exact pm_glob hg h1 h2 h3 hd
/-! ### None is not False -/
def pIs2 : D → D → Option D
  | .non, .bl _ => some (.bl true)
  | x, y => pIs true x y
def rNotW : R2 := fun x y H Q => rNotU x y H Q ∨ (x = .non ∧ (∃ b, y = .bl b) ∧ Q (.bl true) H)
theorem op_notNB : OpR X (compareOp .IsNot) (fun x y H Q => x = .non ∧ (∃ b, y = .bl b) ∧ Q (.bl true) H) := by
  intro pins s σ H x y v u Q I rx ry h
  obtain ⟨rfl, ⟨b, rfl⟩, q⟩ := h
  cases (show v = Value.none from rx)
  cases (show u = Value.bool b from ry)
  exact wpAny_isNot_other rfl (fun z => by cases z) ⟨.bl true, H, I, rfl, q⟩
theorem op_notW : OpR X (compareOp .IsNot) rNotW := op_notU.or op_notNB
theorem rv_notw {K : PySem.W.Frag} : RvM K bx rNotW pIs2 := by
  intro Hf H x y d vx vy hi b rx ry e Q q
  have old : pIs true x y = some d → rNotW vx vy H Q := fun e => .inl (rv_isnot hi b rx ry e Q q)
  cases x with
  | non =>
    cases y with
    | bl k =>
      cases e
      exact .inr ⟨rx.non, ⟨k, ry.bl⟩, rv_now hi b (.bl _) q⟩
    | _ => exact old e
  | _ => exact old e
/-! ### dicts -/
def D.key : D → Option Key
  | .int i => some (.inl i)
  | .str z => some (.inr z)
  | _ => none
theorem key_ofD {Hf H : Hp} {K : PySem.W.Frag} {d : D} {v : V} {k : Key} (r : Rq K bx Hf H d v) (e : d.key = some k) : v = kV k := by
  cases d with
  | int i => cases e; exact r.int
  | str i => cases e; exact r.str
  | _ => cases e
def lookK : List Key → List D → Key → Option D
  | k :: ks, d :: ds, j => if k = j then some d else lookK ks ds j
  | _, _, _ => none
theorem look_of {K : PySem.W.Frag} {Hf : Hp} (j : Key) : ∀ {kvs : List (Key × V)} {ds : List D}, RpL K Hf ds (kvs.map (·.2)) → (∀ d, lookK (kvs.map (·.1)) ds j = some d → ∃ v, valV kvs j = some v ∧ Rp K Hf d v) ∧ (lookK (kvs.map (·.1)) ds j = none → valV kvs j = none)
  | [], ds, r => ⟨fun d e => (by cases ds <;> exact nomatch e), fun _ => rfl⟩
  | (k, v) :: kvs, _, .cons h r => by
    by_cases q : k = j
    · refine ⟨fun d e => ?_, fun e => ?_⟩
      · rw [List.map_cons, lookK, if_pos q] at e
        cases e
        exact ⟨v, valV_pos q, h⟩
      · rw [List.map_cons, lookK, if_pos q] at e
        cases e
    · obtain ⟨h1, h2⟩ := look_of j r
      refine ⟨fun d e => ?_, fun e => ?_⟩
      · rw [List.map_cons, lookK, if_neg q] at e
        rw [valV_neg q]
        exact h1 d e
      · rw [List.map_cons, lookK, if_neg q] at e
        rw [valV_neg q]
        exact h2 e
def pDix : D → D → Option D
  | .dct ks ds, x => x.key.bind fun k => lookK ks ds k
  | _, _ => none
theorem pm_dix (hu : X.A.units + 1 < cLine) (ha : BM X bx o ma) (hb : BM X bx i mb) (hs : NoSl i) : PM X bx (.Subscript o i pos) (mOp pDix ma mb) := by
  obtain ⟨ta, a1, a2⟩ := ha.ex
  obtain ⟨tb, b1, b2⟩ := hb.ex
  refine ⟨_, pe_dget hu a1 b1 hs, fun {Hf0 H0 E σ Hf H} I {P} w Q q => ?_⟩
  refine a2 I (wp_bind w) _ fun x vx Hf2 H2 w2 s2 o2 r2 => ?_
  refine b2 (I.step s2 o2) (wp_bind w2) _ fun y vy Hf3 H3 w3 s3 o3 r3 => ?_
  obtain ⟨d, e, p⟩ := wp_lift w3
  cases x with
  | dct ks ds =>
    obtain ⟨a, kvs, rfl, h1, rfl, rl⟩ := (r2.step s3).dct s3.i
    replace e : (y.key.bind fun k => lookK (kvs.map (·.1)) ds k) = some d := e
    cases ek : y.key with
    | none => rw [ek] at e; cases e
    | some k =>
      rw [ek] at e
      obtain rfl := key_ofD r3 ek
      obtain ⟨v, h2, h3⟩ := (look_of k rl).1 d e
      exact ⟨a, v, rfl, by rw [← h2]; exact DGet.k h1, q d v Hf3 H3 p (s2.trans s3) o3 h3⟩
  | _ => cases e
def pDin (neg : Bool) : D → D → Option D
  | x, .dct ks ds => x.key.map fun k => .bl (neg != (lookK ks ds k).isSome)
  | _, _ => none
theorem din_aux {K : PySem.W.Frag} {Hf : Hp} {kvs : List (Key × V)} {ds : List D} {k : Key} (rl : RpL K Hf ds (kvs.map (·.2))) : (valV kvs k).isSome = (lookK (kvs.map (·.1)) ds k).isSome := by
  cases e : lookK (kvs.map (·.1)) ds k with
  | none => rw [(look_of k rl).2 e]; rfl
  | some d => obtain ⟨v, h2, _⟩ := (look_of k rl).1 d e; rw [h2]; rfl
theorem tm_din (hu : X.A.units + 1 < cLine) (hb : BM X bx i mb) (ha : BM X bx o ma) (hm : behindInMarks .In o = false := by rfl) : TM X bx (.Compare i [.In] [o] pos) (mTest (mOp (pDin false) mb ma)) := by
  obtain ⟨ta, a1, a2⟩ := ha.ex
  obtain ⟨tb, b1, b2⟩ := hb.ex
  refine ⟨_, pt_cmp (pc_din hu b1 a1) hm, fun {Hf0 H0 E σ Hf H} I {P} w Q q => ?_⟩
  refine b2 I (wp_bind (wp_bind w)) _ fun y vy Hf2 H2 w2 s2 o2 r2 => ?_
  refine a2 (I.step s2 o2) (wp_bind w2) _ fun x vx Hf3 H3 w3 s3 o3 r3 => ?_
  obtain ⟨d, e, p⟩ := wp_lift w3
  cases x with
  | dct ks ds =>
    obtain ⟨a, kvs, rfl, h1, rfl, rl⟩ := r3.dct s3.i
    replace e : (y.key.map fun k => D.bl (false != (lookK (kvs.map (·.1)) ds k).isSome)) = some d := e
    cases ek : y.key with
    | none => rw [ek] at e; cases e
    | some k =>
      rw [ek] at e
      obtain rfl := key_ofD (r2.step s3) ek
      cases e
      obtain ⟨b, eb, p⟩ := wp_lift p
      refine ⟨a, _, rfl, DGet.k h1, (valV kvs k).isSome, rfl, q _ Hf3 H3 ?_ (s2.trans s3) o3⟩
      rw [din_aux rl]
      have eb' : (false != (lookK (kvs.map (·.1)) ds k).isSome) = b := Option.some.inj eb
      rw [show (lookK (kvs.map (·.1)) ds k).isSome = b by rw [← eb']; simp]
      exact p
  | _ => cases e
/-! ### name += .. -/
def mAug (n : Nat) (me : En → M D) : En → M Fl := fun E => match E[n]? with
  | some (.sh (.int i)) => me E >>= fun d => lift d.toI >>= fun j => pure (.nx (E.set n (.sh (.int (i + j)))))
  | _ => fail
theorem sm_aug {x : Str} {px : Pos} (n : Nat) (he : PM X bx e me) (hN : X.N.Nodup) (hi : X.N[n]? = some x) (hx : Loc X.env.scope x) (hf : X.fn x = true ∨ X.env.scope.names.lookup x = some .local := by first | exact .inl rfl | exact .inr rfl | assumption) :
    SM X bx (.AugAssign (.Name x px) .Add e pos) (mAug n me) := by
  obtain ⟨ta, a1, a2⟩ := he.ex
  refine ⟨_, ps_aug hN hi hx a1 ip_add hf, fun {Hf0 H0 E σ Hf H} I {P} w D q => ?_⟩
  unfold mAug at w
  cases e1 : E[n]? with
  | none => rw [e1] at w; exact absurd w wp_fail
  | some sl =>
    rw [e1] at w
    cases sl with
    | sh d0 =>
      cases d0 with
      | int i =>
        obtain ⟨v, e2, r⟩ := I.at e1
        cases r
        refine ⟨_, e2, ?_⟩
        refine a2 I (wp_bind w) _ fun d v Hf2 H2 w2 s2 o2 r2 => ?_
        obtain ⟨j, ej, w3⟩ := wp_lift (wp_bind w2)
        obtain rfl := toI_of ej
        cases r2
        exact ⟨i, j, rfl, rfl, q.nx _ _ _ _ (wp_pure w3) s2.f ((I.step s2 o2).set (.int _) (List.getElem?_eq_some_iff.mp e1).1)⟩
      | _ => exact absurd w wp_fail
    | _ => exact absurd w wp_fail
end
end Fm
set_option Elab.async false
set_option linter.all false
set_option maxRecDepth 100000
set_option maxHeartbeats 2000000
set_option autoImplicit false
namespace Fm
open PySem PySem.Spec PyProof.Rows L2
open Evl (Ex ex_l ex_t ex_rd)
open WPM
section
variable {M : Type → Type} [WPM M] {X : Cx} {bx : Bx} {e a b c : Expr} {es : List Expr} {ma mb mc me : En → M D} {pos : Pos}
/-! ### minus -/
def mNeg (ma : En → M D) : En → M D := fun E => ma E >>= fun x => lift x.toI >>= fun i => pure (.int (-i))
theorem pm_neg (ha : PM X bx a ma) : PM X bx (.UnaryOp .USub a pos) (mNeg ma) := by
  obtain ⟨ta, a1, a2⟩ := ha.ex
  refine ⟨_, pe_un un_neg a1, fun {Hf0 H0 E σ Hf H} I {P} w Q q => ?_⟩
  refine a2 I (wp_bind w) _ fun d v Hf2 H2 w2 s2 o2 r2 => ?_
  obtain ⟨i, ei, w3⟩ := wp_lift (wp_bind w2)
  obtain rfl := toI_of ei
  cases r2
  exact ⟨i, rfl, q _ _ Hf2 H2 (wp_pure w3) s2 o2 (.int _)⟩
/-! ### d[k] = v of one's own dict -/
def putDs : List Key → List D → Key → D → List D
  | k :: ks, x :: ds, j, d => (if k = j then d else x) :: putDs ks ds j d
  | _, _, _, _ => []
def putD (ks : List Key) (ds : List D) (j : Key) (d : D) : List Key × List D := if ks.any (fun k => decide (k = j)) = true then (ks, putDs ks ds j d) else (ks ++ [j], ds ++ [d])
theorem putDs_of {K : PySem.W.Frag} {Hf : Hp} {j : Key} {d : D} {v : V} (hd : Rp K Hf d v) : ∀ {kvs : List (Key × V)} {ds : List D}, RpL K Hf ds (kvs.map (·.2)) → RpL K Hf (putDs (kvs.map (·.1)) ds j d) ((kvs.map fun kv => if kv.1 = j then (kv.1, v) else kv).map (·.2))
  | [], ds, r => by cases ds <;> exact .nil
  | (k, x) :: kvs, _, .cons h r => by
    refine .cons ?_ (putDs_of hd r)
    show Rp K Hf (if k = j then d else _) (if k = j then (k, v) else (k, x)).2
    by_cases q : k = j
    · rw [if_pos q, if_pos q]; exact hd
    · rw [if_neg q, if_neg q]; exact h
theorem putD_of {K : PySem.W.Frag} {Hf : Hp} {j : Key} {d : D} {v : V} {kvs : List (Key × V)} {ds : List D} (hd : Rp K Hf d v) (r : RpL K Hf ds (kvs.map (·.2))) : (putK kvs j v).map (·.1) = (putD (kvs.map (·.1)) ds j d).1 ∧ RpL K Hf (putD (kvs.map (·.1)) ds j d).2 ((putK kvs j v).map (·.2)) := by
  unfold putK putD
  have e : (kvs.any fun kv => decide (kv.1 = j)) = (kvs.map (·.1)).any fun k => decide (k = j) := by rw [List.any_map]; rfl
  rw [e]
  by_cases q : ((kvs.map (·.1)).any fun k => decide (k = j)) = true
  · rw [if_pos q, if_pos q]
    refine ⟨?_, putDs_of hd r⟩
    rw [List.map_map]
    refine List.map_congr_left fun kv _ => ?_
    show (if kv.1 = j then (kv.1, v) else kv).1 = kv.1
    split <;> rfl
  · rw [if_neg q, if_neg q]
    exact ⟨by simp, by rw [List.map_append]; exact r.append (.one hd)⟩
def mDput (n : Nat) (mv mi : En → M D) : En → M Fl := fun E => match E[n]? with
  | some (.od ks ds) => mv E >>= fun d => mi E >>= fun i => lift i.key >>= fun j => if ks.length < sizeLine then pure (.nx (E.set n (.od (putD ks ds j d).1 (putD ks ds j d).2))) else fail
  | _ => fail
theorem sm_dput (n : Nat) {i : Expr} {x : Str} {px pos' : Pos} {mv mi : En → M D} (hu : X.A.units + 1 < cLine) (hv : PE X (.Name x px) (tVar n)) (hi : PM X bx i mi) (he : PM X bx e mv)
    (hs : swapsWith e (some (.Subscript (.Name x px) i pos')) pos.line X.env = pure false := by rfl) : SM X bx (.Assign [.Subscript (.Name x px) i pos'] e pos) (mDput n mv mi) := by
  obtain ⟨ta, a1, a2⟩ := he.ex
  obtain ⟨tb, b1, b2⟩ := hi.ex
  refine ⟨_, ps_dput hu hv b1 a1 hs, fun {Hf0 H0 E σ Hf H} I {P} w D q => ?_⟩
  unfold mDput at w
  cases e1 : E[n]? with
  | none => rw [e1] at w; exact absurd w wp_fail
  | some sl =>
    rw [e1] at w
    cases sl with
    | od ks ds =>
      obtain ⟨p, kvs, ev, h1, h2, h3, rfl, r⟩ := I.at e1
      have nb : ¬ isB bx p := fun z => I.b0 p z h1
      refine a2 I (wp_bind w) _ fun d v Hf2 H2 w2 s2 o2 r2 => ?_
      refine ⟨.ref p, ev, ?_⟩
      refine b2 (I.step s2 o2) (wp_bind w2) _ fun y vy Hf3 H3 w3 s3 o3 r3 => ?_
      obtain ⟨j, ej, w4⟩ := wp_lift (wp_bind w3)
      obtain rfl := key_ofD (bx := bx) (.of (H := H3) r3) ej
      have s23 := s2.trans s3
      have h4 := s23.k p _ nb h3
      split at w4
      case isFalse => exact absurd w4 wp_fail
      case isTrue hl =>
      have key := putD_of (j := j) (r2.mono s3.f) (r.mono s23.f)
      refine ⟨p, _, rfl, DPut.k h4 (by simpa using hl), q.nx _ _ _ _ (wp_pure w4) s23.f ?_⟩
      exact ((I.step s2 o2).step s3 o3).putS e1 trivial ev ⟨p, _, rfl, h1, s23.n p h2 (by rw [h3]; simp), upd_same, key.1, key.2⟩ trivial
    | _ => exact absurd w wp_fail
/-! ### held.remove(left.pop(0)), whole numbers -/
def mRemPop (i j : Nat) : En → M Fl := fun E => match E[i]?, E[j]? with
  | some (.ow hs), some (.ow (.int k :: r)) => lift (D.ints hs) >>= fun ns => lift (ns.findIdx? fun n => decide (n = k)) >>= fun p => pure (.nx ((E.set j (.ow r)).set i (.ow (hs.eraseIdx p))))
  | _, _ => fail
theorem erase_map {α β : Type} (f : α → β) : ∀ (l : List α) (m : Nat), (l.map f).eraseIdx m = (l.eraseIdx m).map f
  | [], _ => rfl
  | _ :: _, 0 => rfl
  | x :: l, m + 1 => by
    show f x :: (l.map f).eraseIdx m = f x :: (l.eraseIdx m).map f
    rw [erase_map f l m]
theorem first_at {ns : List Int} {k : Int} {p : Nat} (h : (ns.findIdx? fun n => decide (n = k)) = some p) : ns[p]? = some k ∧ ∀ m : Nat, m < p → ns[m]? ≠ some k := by
  obtain ⟨h1, h2, h3⟩ := List.findIdx?_eq_some_iff_getElem.mp h
  refine ⟨by rw [List.getElem?_eq_getElem h1, of_decide_eq_true h2], fun m hm z => ?_⟩
  have hl : m < ns.length := by omega
  rw [List.getElem?_eq_getElem hl] at z
  exact h3 m hm (decide_eq_true (Option.some.inj z))
theorem sm_remPop (i j : Nat) (hij : i ≠ j) {x y : Str} {px py pa pc pb pd p0 : Pos} {k0 : Nat} (hv : PE X (.Name x px) (tVar i)) (hw : PE X (.Name y py) (tVar j))
    (hB : PE X (.Call (.Attribute (.Name y py) "pop" pb) [.Constant (.int 0) k0 p0] [] pd) (tBM X.K "list" rPopAt (tVar j) (tCons (tC (.int 0)) tNil)))
    (hA : ∀ t, PE X (.Call (.Attribute (.Name y py) "pop" pb) [.Constant (.int 0) k0 p0] [] pd) t → PE X (.Call (.Attribute (.Name x px) "remove" pa) [.Call (.Attribute (.Name y py) "pop" pb) [.Constant (.int 0) k0 p0] [] pd] [] pc) (tBM X.K "list" rRemI (tVar i) (tCons t tNil)))
    (hs : swapsWith (.Call (.Attribute (.Name x px) "remove" pa) [.Call (.Attribute (.Name y py) "pop" pb) [.Constant (.int 0) k0 p0] [] pd] [] pc) none pos.line X.env = pure false := by rfl) :
    SM X bx (.Expr (.Call (.Attribute (.Name x px) "remove" pa) [.Call (.Attribute (.Name y py) "pop" pb) [.Constant (.int 0) k0 p0] [] pd] [] pc) pos) (mRemPop i j : En → M Fl) := by
  refine ⟨_, ps_expr (hA _ hB) hs, fun {Hf0 H0 E σ Hf H} I {P} w D q => ?_⟩
  unfold mRemPop at w
  cases e1 : E[i]? with
  | none => rw [e1] at w; exact absurd w wp_fail
  | some s1 =>
    cases e2 : E[j]? with
    | none => rw [e1, e2] at w; cases s1 <;> exact absurd w wp_fail
    | some s2 =>
      rw [e1, e2] at w
      have key : (∃ hs k r, s1 = .ow hs ∧ s2 = .ow (.int k :: r)) := by
        cases s1 with
        | ow hs =>
          cases s2 with
          | ow ls =>
            cases ls with
            | nil => exact absurd w wp_fail
            | cons d r =>
              cases d with
              | int k => exact ⟨hs, k, r, rfl, rfl⟩
              | _ => exact absurd w wp_fail
          | _ => exact absurd w wp_fail
        | _ => exact absurd w wp_fail
      obtain ⟨hs, k, r, rfl, rfl⟩ := key
      obtain ⟨ns, en, w2⟩ := wp_lift (wp_bind w)
      obtain ⟨m, em, w3⟩ := wp_lift (wp_bind w2)
      obtain ⟨p, vs, ev, h1, h2, h3, rp⟩ := I.at e1
      obtain ⟨p2, vs2, ev2, g1, g2, g3, rp2⟩ := I.at e2
      have np : p ≠ p2 := fun z => I.dj i j _ _ p hij e1 e2 trivial trivial ev (by rw [ev2, z])
      cases rp2 with
      | @cons _ _ v0 vr hk rr =>
        cases hk
        have ez := ints_of rp en
        subst ez
        have I2 := I.putS e2 trivial ev2 (o := .lst vr) (t := .ow r) ⟨p2, _, rfl, g1, g2, upd_same, rr⟩ trivial
        obtain ⟨f1, f2⟩ := first_at em
        refine ⟨.ref p, ev, .inl ⟨rfl, _, .of h3⟩, .ref p2, ev2, .inl ⟨rfl, _, .of g3⟩, p2, _, 0, 0, .int k, rfl, rfl, g3, by decide, by decide, by simp [seqIndex?], rfl, ?_⟩
        refine ⟨p, ns, k, m, rfl, rfl, by rw [upd_ne np]; exact h3, f1, f2, q.nx _ _ _ _ (wp_pure w3) (Ex.refl _) ?_⟩
        have e1' : (E.set j (.ow r))[i]? = some (.ow hs) := by rw [List.getElem?_set_ne (Ne.symm hij)]; exact e1
        refine I2.putS e1' trivial ev ⟨p, _, rfl, h1, h2, upd_same, ?_⟩ trivial
        have := rp.erase m
        rwa [show (ns.map V.int).eraseIdx m = (ns.eraseIdx m).map V.int from erase_map _ _ _] at this
/-! ### len(set(xs)) of whole numbers -/
theorem met_has (f : Nat → Int) : ∀ n x, x ∈ firstMet f n ↔ ∃ i, i < n ∧ f i = x
  | 0, x => by rw [firstMet_zero]; simp
  | n + 1, x => by
    rw [firstMet_succ]
    unfold step_dedup
    have old := met_has f n
    by_cases q : (firstMet f n).any (· == f n) = true
    · rw [if_pos q, old]
      obtain ⟨y, hy, e⟩ := List.any_eq_true.mp q
      obtain ⟨j, hj, ej⟩ := (old y).mp hy
      have e' : y = f n := by simpa using e
      refine ⟨fun ⟨i, hi, e⟩ => ⟨i, by omega, e⟩, fun ⟨i, hi, e⟩ => ?_⟩
      by_cases h : i = n
      · exact ⟨j, hj, by rw [ej, e', ← e, h]⟩
      · exact ⟨i, by omega, e⟩
    · rw [if_neg q, List.mem_append, old]
      refine ⟨fun h => ?_, fun ⟨i, hi, e⟩ => ?_⟩
      · rcases h with ⟨i, hi, e⟩ | h
        · exact ⟨i, by omega, e⟩
        · exact ⟨n, by omega, by simpa using Eq.symm (by simpa using h)⟩
      · by_cases h : i = n
        · right; subst h; simp [e]
        · left; exact ⟨i, by omega, e⟩
theorem met_nodup (f : Nat → Int) : ∀ n, (firstMet f n).Nodup
  | 0 => by rw [firstMet_zero]; exact List.nodup_nil
  | n + 1 => by
    rw [firstMet_succ]
    unfold step_dedup
    by_cases q : (firstMet f n).any (· == f n) = true
    · rw [if_pos q]; exact met_nodup f n
    · rw [if_neg q]
      refine List.nodup_append.mpr ⟨met_nodup f n, by simp, fun a ha b hb z => q (List.any_eq_true.mpr ⟨a, ha, ?_⟩)⟩
      have : b = f n := by simpa using hb
      simp [z, this]
def metN (ns : List Int) : Nat := (firstMet (fun i => ns.getD i 0) ns.length).length
theorem met_mem (ns : List Int) (x : Int) : x ∈ firstMet (fun i => ns.getD i 0) ns.length ↔ x ∈ ns := by
  rw [met_has]
  refine ⟨fun ⟨i, hi, e⟩ => ?_, fun h => ?_⟩
  · rw [← e]; simp [hi]
  · obtain ⟨i, hi, e⟩ := List.getElem_of_mem h
    exact ⟨i, hi, by simp [hi, e]⟩
theorem metN_of {w : World} {h : Heap} {a : Addr} {ns : List Int} {c : Nat} (R : SetR w h a (fun j => decide (j ∈ ns)) c) : c = metN ns := by
  obtain ⟨o, es, ep, t, ho, hex, hd, g, nd, hm, hb, hf, hn, hr, hl⟩ := R
  have p : (es.toList.map keyOf).Perm (firstMet (fun i => ns.getD i 0) ns.length) := (List.perm_ext_iff_of_nodup nd (met_nodup _ _)).mpr fun k => by
    rw [met_mem, ← hm k, decide_eq_true_eq]
  have := p.length_eq
  rw [List.length_map, Array.length_toList, hn] at this
  exact this
def tLenSetD (K : PySem.W.Frag) (ta : TE) : TE := fun σ H Q => ta σ H fun x H1 => ∃ (l : Addr) (ns : List Int), x = V.ref l ∧ (SqL K H1 l (ns.map V.int) ∨ SqT K H1 l (ns.map V.int)) ∧ ns.length ≤ 1000 ∧ Q (.int (metN ns : Nat)) H1
theorem pe_lenSetD {ta : TE} {p p2 q : Pos} (hc : X.calm = true) (hg : Gl X "len") (hm : X.mg "len" = none) (hg2 : Gl X "set") (hm2 : X.mg "set" = none) (ha : PE X a ta) (na : starEach [a] X.env = (false, eval a X.env) :: starEach [] X.env := by rfl) :
    PE X (.Call (.Name "len" p) [.Call (.Name "set" p2) [a] [] q] [] pos) (tLenSetD X.K ta) := by
  refine ⟨fun pins s σ H Q I h => Call_ (ld_blt I hg hm PySem.boot_len (PyProof.Rows.callWith_builtin1 (PyProof.Rows.args_cons ?_ rfl) rfl rfl))⟩
  refine Call_ (ld_blt I hg2 hm2 PyProof.Rows.boot_set (PyProof.Rows.callWith_type1 (PyProof.Rows.args_cons (thn (ha.run pins s σ H _ I h) fun v s1 ⟨x, H1, I1, r1, q1⟩ => PyProof.Rows.args_nil ?_) na) na rfl))
  obtain ⟨l, ns, rfl, hq, h1, q1⟩ := q1
  cases r1
  rcases hq with hq | hq
  · obtain ⟨its, r, pl, hz⟩ := I1.list hq
    have hl : its.toArray.size = ns.length := by rw [List.size_toArray, ← r.length, List.length_map]
    refine call_set_list (I1.ok.hd hc) pl.isList (ns := ns) (by simpa using r.ints) (by unfold scanBound; omega) fun h' tk hS hk => PyProof.Rows.args_nil ?_
    rw [hl] at hS
    obtain ⟨o, es, ep, t, ho, hex, hd, _, _, _, hf, hn⟩ := hS
    have I2 : Inv X pins σ H1 { s1 with heap := h', toks := tk } := I1.kept fun b o e => hk b o (Heap.lt_size e) e
    have small : es.size ≤ 1000 := by rw [hn]; exact Nat.le_trans (firstMet_length_le _ _) h1
    exact call_len_set ho hex hd hf (by omega) ⟨.int (metN ns : Nat), H1, I2.tok _, ⟨_, by rw [hn]; rfl⟩, q1⟩
  · obtain ⟨its, r, pt, hz⟩ := I1.tuple hq
    have hi : IntsAre its.toArray.toList ns := by simpa using r.ints
    refine call_set_tupI ns (I1.ok.hd hc) (show s1.heap.IsTuple l its.toArray from pt) hi (by unfold scanBound; omega) fun h' tk c R1 hcn k => PyProof.Rows.args_nil ?_
    have ec := metN_of R1
    obtain ⟨o, es, ep, t, ho, hex, hd, g, nd, hm2, hb, hf, hn, hr, hl2⟩ := R1
    have I2 : Inv X pins σ H1 { s1 with heap := h', toks := tk } := I1.kept k
    exact call_len_set ho hex hd hf (by omega) ⟨.int (metN ns : Nat), H1, I2.tok _, ⟨_, by rw [hn, ec]⟩, q1⟩
def fLenSet : D → Option D
  | .lst xs => (D.ints xs).bind fun ns => ifD (ns.length ≤ 1000) (.int (metN ns : Nat))
  | .tup xs => (D.ints xs).bind fun ns => ifD (ns.length ≤ 1000) (.int (metN ns : Nat))
  | _ => none
theorem pm_lenSet {p p2 q : Pos} (hc : X.calm = true) (hg : Gl X "len") (hm : X.mg "len" = none) (hg2 : Gl X "set") (hm2 : X.mg "set" = none) (ha : BM X bx a ma) (na : starEach [a] X.env = (false, eval a X.env) :: starEach [] X.env := by rfl) :
    PM X bx (.Call (.Name "len" p) [.Call (.Name "set" p2) [a] [] q] [] pos) (mUn fLenSet ma) := by
  obtain ⟨ta, a1, a2⟩ := ha.ex
  refine ⟨_, pe_lenSetD hc hg hm hg2 hm2 a1 na, fun {Hf0 H0 E σ Hf H} I {P} w Q q => ?_⟩
  refine a2 I (wp_bind w) _ fun d v Hf2 H2 w2 s2 o2 r2 => ?_
  obtain ⟨y, ey, p⟩ := wp_lift w2
  have key : ∀ {xs : List D} {vs : List V} {p1 : Addr}, RpL X.K Hf2 xs vs → (SqL X.K H2 p1 vs ∨ SqT X.K H2 p1 vs) → ((D.ints xs).bind fun ns => ifD (ns.length ≤ 1000) (.int (metN ns : Nat))) = some y → ∃ (l : Addr) (ns : List Int), V.ref p1 = V.ref l ∧ (SqL X.K H2 l (ns.map V.int) ∨ SqT X.K H2 l (ns.map V.int)) ∧ ns.length ≤ 1000 ∧ Q (.int (metN ns : Nat)) H2 := by
    intro xs vs p1 r h e
    cases en : D.ints xs with
    | none => rw [en] at e; cases e
    | some ns =>
      rw [en] at e
      obtain ⟨hl, rfl⟩ := ifD_some e
      obtain rfl := ints_of r en
      exact ⟨p1, ns, rfl, h, hl, q _ _ Hf2 H2 p s2 o2 (.int _)⟩
  cases d with
  | lst xs =>
    obtain ⟨p1, vs, rfl, h1, r3⟩ := r2.lst s2.i
    exact key r3 (.inl (.of h1)) ey
  | tup xs =>
    obtain ⟨p1, vs, rfl, h1, r3⟩ := r2.tup
    exact key r3 (.inr (ex_t s2.i h1)) ey
  | _ => cases ey
end
end Fm
set_option Elab.async false
set_option linter.all false
set_option maxRecDepth 100000
set_option maxHeartbeats 3200000
set_option autoImplicit false
namespace Fm
open PySem PySem.Spec PyProof.Rows L2
open Evl (Ex ex_l ex_t ex_rd)
open WPM
/-! ### sorted(set(xs)), xs of one text or none -/
/-- the set at a holds just the entries l; it can be walked -/
def SetL (w : World) (h : Heap) (a : Addr) (l : List (Int × Value)) : Prop :=
  ∃ o es ep t, h.get? a = some o ∧ o.ExactSet ∧ o.data = .set es ep t ∧ es.toList = l ∧ t.fits es.size = true ∧ Ris t.place.toList ∧ (w.params.followText "set-order" = true ∨ t.led = true)
theorem SetL.at {w : World} {h h' : Heap} {a : Addr} {l : List (Int × Value)} (R : SetL w h a l) (k : ∀ o, h.get? a = some o → h'.get? a = some o) : SetL w h' a l := by
  obtain ⟨o, es, ep, t, ho, r⟩ := R
  exact ⟨o, es, ep, t, k o ho, r⟩
section
variable {P : Program} {w : World} {A : Around} {E : Value → Shared → Prop} {s : Shared} {a : Addr}
theorem setL_tail {g : Bool → Sem Unit} (hg : ∀ (b : Bool) (s₁ : Shared) (Q' : Unit → Shared → Prop), Q' () s₁ → wpAny (model P w) A (g b) Q' E s₁)
    {o : Obj} {es : Array (Int × Value)} {ep : Nat} {t : SetTable} (ho : s.heap.get? a = some o) (hex : o.ExactSet) (hd : o.data = .set es ep t)
    {es1 : Array (Int × Value)} {t2 : SetTable} {x : Int × Value} (h1 : es1.toList = [x]) (hf2 : t2.fits es1.size = true) (hr : Ris t2.place.toList) (hl : w.params.followText "set-order" = true ∨ t2.led = true) {wasDummy : Bool} {R : Option Bool → Shared → Prop}
    (hR : ∀ h', Heap.SameBut a s.heap h' → SetL w h' a [x] → R (some true) { s with heap := h' }) :
    wpAny (model P w) A (do
        storeSet a es1 t2
        if (!wasDummy && t2.tooFull) = true then do
            g (relayAll t2 es1 (SetTable.grown es1.size)).2.2
            storeSet a (relayAll t2 es1 (SetTable.grown es1.size)).1 (relayAll t2 es1 (SetTable.grown es1.size)).2.1
            pure (some true)
          else pure (some true)) R E s := by
  have hs1 : es1.size = 1 := by rw [← Array.length_toList, h1]; rfl
  have hb1 : es1.size < scanBound := by rw [hs1]; decide
  refine wpAny_bind (wpAny_storeSet_of ho hd ?_ (fits_of_scanBound hb1))
  have ho1 := PpSet.storeB_at (es' := es1) (t' := t2) ho hd
  have sb1 := Heap.SameBut.update s.heap a (Obj.putSet es1 t2)
  split
  · have pm := relayAll_perm t2 es1 (SetTable.grown es1.size)
    have hf3 := relayAll_fits t2 es1 (SetTable.grown es1.size)
    have hr3 := relayAll_ris t2 es1 (SetTable.grown es1.size)
    have hl3 := relayAll_led t2 es1 (SetTable.grown es1.size)
    generalize relayAll t2 es1 (SetTable.grown es1.size) = Z at pm hf3 hr3 hl3 ⊢
    obtain ⟨es2, t3, gave⟩ := Z
    dsimp only at pm hf3 hr3 hl3 ⊢
    rw [h1] at pm
    have e2 := List.perm_singleton.mp pm
    have hb2 : es2.size < scanBound := by rw [← Array.length_toList, e2]; exact (by decide : 1 < scanBound)
    refine wpAny_bind (hg _ _ _ (wpAny_bind (wpAny_storeSet_of ho1 rfl ?_ (fits_of_scanBound hb2))))
    exact wpAny_pure (hR _ (sb1.trans (Heap.SameBut.update _ a _)) ⟨_, es2, _, t3, PpSet.storeB_at (es' := es2) (t' := t3) ho1 rfl, hex, rfl, e2, hf3, hr3, hl.imp id fun z => by rw [hl3]; exact z⟩)
  · exact wpAny_pure (hR _ sb1 ⟨_, es1, _, t2, ho1, hex, rfl, h1, hf2, hr, hl⟩)
theorem setL_add {x : Str} {u : Tok} {Q : Bool → Shared → Prop} (R : SetL w s.heap a []) (hQ : ∀ h', Heap.SameBut a s.heap h' → SetL w h' a [((PySem.strKind P w).hash x, .str x u)] → Q true { s with heap := h' }) :
    wpAny (model P w) A (setAddHashed a (.str x u) ((PySem.strKind P w).hash x)) Q E s := by
  obtain ⟨o, es, ep, t, ho, hex, hd, he, hf, hr, hl⟩ := R
  have hs0 : es.size = 0 := by rw [← Array.length_toList, he]; rfl
  have hb : es.size < scanBound := by rw [hs0]; decide
  have hkey : (PySem.strKind P w).is x (.str x u) = true := strKind_is _ _ _ _
  have hsc : (Value.str x u).scannable = true := rfl
  have hel : ElemsOf (PySem.strKind P w) es.toList := by rw [he]; intro e z; cases z
  unfold setAddHashed setAddHashedIn
  refine wpAny_holding (wpAny_bind (wpAny_setState_of ho hd hf ?_))
  dsimp only
  rw [byScan_of hsc hb hel]
  simp only [↓reduceIte]
  unfold setAddByScan
  refine wpAny_bind (wpAny_bind (wpAny_rule (wpAny_bind (wpAny_setScan_of hkey ho hd hf hel ?_))))
  rw [he, List.findIdx?_nil]
  dsimp only
  have hgw : ∀ (b : Bool) {s₁ : Shared} {Q' : Unit → Shared → Prop}, Q' () s₁ → wpAny (model P w) A (match b with | true => rule "set.scan.the-table-gave-way" | false => pure ()) Q' E s₁ :=
    fun b s₁ Q' q => by cases b <;> first | exact wpAny_pure q | exact wpAny_rule q
  have pm := layNew_perm t es ((PySem.strKind P w).hash x) (.str x u)
  have hf1 := layNew_fits t es ((PySem.strKind P w).hash x) (.str x u)
  have hr1 := layNew_ris t es ((PySem.strKind P w).hash x) (.str x u) hr
  have hl1 := layNew_led t es ((PySem.strKind P w).hash x) (.str x u)
  generalize layNew t es ((PySem.strKind P w).hash x) (.str x u) = Z at pm hf1 hr1 hl1 ⊢
  obtain ⟨es1, t1, wasDummy, gave⟩ := Z
  dsimp only at pm hf1 hr1 hl1 ⊢
  rw [Array.toList_push, he, List.nil_append] at pm
  have e1 := List.perm_singleton.mp pm
  have hled : w.params.followText "set-order" = true ∨ t1.led = true := hl.imp id fun z => by rw [hl1]; exact z
  refine wpAny_bind (hgw _ ?_)
  split
  · refine wpAny_bind ?_
    rw [hashByValue_scannable 8 hsc]
    refine wpAny_pure ?_
    refine setL_tail ?_ ho hex hd e1 ?_ ?_ ?_ ?_
    · intro b s₁ Q' q; cases b <;> first | exact wpAny_pure q | exact wpAny_rule q
    · first | (split <;> first | exact hf1 | exact SetTable.fits_plain_off hf1) | exact hf1
    · first | (split <;> exact hr1) | exact hr1
    · first | (split <;> exact hled) | exact hled
    · intro h' sb r; dsimp only; exact wpAny_pure (hQ h' sb r)
  · refine wpAny_bind (wpAny_pure ?_)
    simp only [↓reduceIte]
    refine setL_tail ?_ ho hex hd e1 hf1 hr1 hled ?_
    · intro b s₁ Q' q; cases b <;> first | exact wpAny_pure q | exact wpAny_rule q
    · intro h' sb r; dsimp only; exact wpAny_pure (hQ h' sb r)
theorem setL_end {I : Addr} {fp wr : List Addr} {G : Array GenState → Array GenState → Prop} {n : Nat} {Pv : Nat → Value → Prop} {St : Nat → Shared → Prop} {R : Result → Shared → Prop} (W : WalksS P w A.in1 I fp wr G n Pv St) (S : Addr) (hSf : S ∉ fp) (l : List (Int × Value)) {s : Shared}
    (hst : St n s) (hS : SetL w s.heap S l) (hR : ∀ s', Moved (S :: wr) G s s' → SetL w s'.heap S l → R (.ok (.ret .none)) s') : codeAny (model P w) A (.builtin "set.update.loop" ⟨[.ref S, .ref I], []⟩) R s := by
  have hSw : S ∉ wr := fun h => hSf (W.sub _ h)
  refine codeAny_builtin F.entry_set_update_loop ?_
  rw [Around.under_plainId F.plain_set_update_loop _]
  show wpAny _ A.in1 (pyNext (.ref I) >>= _) _ _ s
  refine wpAny_bind (W.done s _ _ hst fun s' hm => ?_)
  show wpAny _ A.in1 (ret Value.none) _ _ s'
  exact wpAny_pure (hR s' (hm.mono fun b hb => List.mem_cons_of_mem _ hb) (hS.at fun o e => hm.heap S o hSw e))
theorem setL_loop {I : Addr} {fp wr : List Addr} {G : Array GenState → Array GenState → Prop} {n : Nat} {Pv : Nat → Value → Prop} {St : Nat → Shared → Prop} {R : Result → Shared → Prop} (W : WalksS P w A.in1 I fp wr G n Pv St) (S : Addr) (hSf : S ∉ fp) (zs : List Str) (hn : n = zs.length) (h1 : zs.length ≤ 1)
    (hval : ∀ i v, Pv i v → ∃ z t, zs[i]? = some z ∧ v = .str z t) {s : Shared} (hst : St 0 s) (hS : SetL w s.heap S [])
    (hR : ∀ s' l, Moved (S :: wr) G s s' → StrsAre (l.map (·.2)) zs → SetL w s'.heap S l → R (.ok (.ret .none)) s') : codeAny (model P w) A (.builtin "set.update.loop" ⟨[.ref S, .ref I], []⟩) R s := by
  have hSw : S ∉ wr := fun h => hSf (W.sub _ h)
  match zs, hn, h1, hval, hR with
  | [], hn, h1, hval, hR =>
    subst hn
    exact setL_end W S hSf [] hst hS fun s' hm hS' => hR s' [] hm .nil hS'
  | [z], hn, h1, hval, hR =>
    subst hn
    refine codeAny_builtin F.entry_set_update_loop ?_
    rw [Around.under_plainId F.plain_set_update_loop _]
    show wpAny _ A.in1 (pyNext (.ref I) >>= _) _ _ s
    refine wpAny_bind (W.item 0 s _ _ (Nat.zero_lt_one) hst fun v s' hP hst' hm => ?_)
    obtain ⟨y, t, hy, rfl⟩ := hval 0 v hP
    cases hy
    have hS' : SetL w s'.heap S [] := hS.at fun o e => hm.heap S o hSw e
    show wpAny _ A.in1 (holding [Value.str z t] (setAdd S (.str z t)) >>= _) _ _ s'
    refine wpAny_bind (wpAny_holding ?_)
    unfold setAdd
    refine wpAny_holding (wpAny_bind ((PySem.strKind P w).pyHash (k := z) (strKind_is _ _ _ _) ?_))
    refine setL_add (s := { s' with toks := s'.toks + 1 }) hS' fun h' hsb hS2 => ?_
    refine wpAny_pure ⟨plainId_quiet F.plain_set_update_loop _, setL_end W S hSf _ (W.frame _ s' _ _ hst' (Nat.le_succ _) fun b hb o e => ?_) hS2 fun s'' hm'' hS'' => ?_⟩
    · rw [hsb.2 b (fun h : b = S => hSf (by rw [← h]; exact hb))]; exact e
    · refine hR s'' [((PySem.strKind P w).hash z, Value.str z t)] (Moved.trans W.gtrans ((hm.mono fun b hb => List.mem_cons_of_mem _ hb).then_heap (Nat.le_succ _) fun b o hb e => ?_) hm'') (.cons z t .nil) hS''
      rw [hsb.2 b (fun h : b = S => hb (by rw [h]; exact List.mem_cons_self))]; exact e
  | _ :: _ :: _, _, h1, _, _ => simp at h1
theorem setL_new {h : Heap} {a : Addr} (ho : h.get? a = some { cls := .type "set", dict := none, data := .set #[] 0 (.fresh 0 0 (!w.params.followText "set-order")) }) : SetL w h a [] :=
  ⟨_, #[], 0, _, ho, ⟨rfl, rfl, rfl⟩, rfl, rfl, rfl, List.Pairwise.nil, by
    show _ ∨ (!w.params.followText "set-order") = true
    cases w.params.followText "set-order"
    · exact .inr rfl
    · exact .inl rfl⟩
theorem call_setL {l : Addr} {items : Array Value} (zs : List Str) {Q : Value → Shared → Prop} (hh : A.handled = none) (hl : s.heap.IsList l items) (hit : StrsAre items.toList zs) (hn1 : zs.length ≤ 1)
    (h : ∀ (h' : Heap) (tk : Nat) (es : List (Int × Value)), SetL w h' s.heap.objs.size es → StrsAre (es.map (·.2)) zs → (∀ b o, s.heap.get? b = some o → h'.get? b = some o) → Q (.ref s.heap.objs.size) { s with heap := h', toks := tk }) :
    wpAny (model P w) A (call (.type "set") [.ref l]) Q E s := by
  obtain ⟨c, tl, hmro⟩ := F.called_set.mro
  have hmade := F.called_set.made
  have hsub := F.called_set.sub
  have h1 := F.called_set.notType
  have h2 := F.called_set.canCreate
  have hct := F.typeCall_set_1 (.ref l)
  refine wpAny_call (codeAny_of_tree ?_)
  show wpAny _ _ (callAny (.type "set") _) _ _ _
  refine wpAny_pure ⟨Code.quiet_builtin _ (by decide +kernel), codeAny_builtin F.entry_type_call ?_⟩
  rw [Around.under_plain (weight_type_call_type "set" [.ref l] []) rfl]
  repeat (any_goals (first | assumption | wp_step))
  generalize hNO : ({ cls := .type "set", dict := none, data := .set #[] 0 (.fresh 0 0 (!w.params.followText "set-order")) } : Obj) = NO
  refine codeAny_mono (code_set_led1 (.ref l) (E := E) (Q₁ := fun obj s₁ => obj = .ref s.heap.objs.size ∧ s₁ = { s with heap := s.heap.push NO }) ⟨rfl, by rw [← hNO]⟩) fun r s₁ hr => ?_
  cases r with
  | error e => exact hr
  | ok fl =>
    cases fl with
    | ret obj =>
      obtain ⟨rfl, rfl⟩ := hr
      have hS : (s.heap.push NO).get? s.heap.objs.size = some NO := Heap.get?_push_size _ (by rw [← hNO]; rfl)
      have hT : Shared.TypeIs { s with heap := s.heap.push NO } (.ref s.heap.objs.size) "set" := ⟨_, hS, by rw [← hNO]⟩
      have hli := F.called_set.init.lookup
      have hbi := F.called_set.init.bind (.ref s.heap.objs.size)
      repeat (any_goals (first | assumption | wp_step))
      refine codeAny_mono (codeAny_call_builtin (R := wants (fun r s₂ => r = .none ∧ ∃ h' tk es, s₂ = { s with heap := h', toks := tk } ∧ SetL w h' s.heap.objs.size es ∧ StrsAre (es.map (·.2)) zs ∧ (∀ b o, s.heap.get? b = some o → h'.get? b = some o)) E) F.called_set.init.plain F.entry_set_init (check_set_init_1 hT ?_)) fun r₂ s₂ hr₂ => ?_
      · obtain ⟨ol, hol, hcl, nl, hdl⟩ := hl
        obtain ⟨ocls, odict, odata, oslots⟩ := ol
        simp only at hcl hdl
        subst hcl hdl
        have hol' : (s.heap.push NO).get? l = some { cls := .type "list", dict := odict, data := .seq items nl, slots := oslots } := Heap.get?_push_of_some _ hol
        have hsls := F.sub_list_set
        have hslf := F.sub_list_frozenset
        have hne : (Value.type "list" == Value.type "dict") = false := by decide
        have hl1 : (s.heap.push NO).IsList l items := ⟨_, hol', rfl, nl, rfl⟩
        subst hNO
        unfold Builtin.«set.__init__» noKeywords Builtin.Frozenset.updateFrom
        generalize hPI : pyIter = PI
        wp_walk
        subst hPI
        refine wpAny_pyIter_list hl1 ?_
        refine wpAny_bind (wpAny_runValue ?_)
        have hlS : l < s.heap.objs.size := Heap.lt_size hol
        have hsz : (s.heap.push { cls := .type "set", dict := none, data := .set #[] 0 (.fresh 0 0 (!w.params.followText "set-order")) }).objs.size = s.heap.objs.size + 1 := Heap.size_push ..
        have hneI := Nat.ne_of_lt (Nat.lt_of_lt_of_eq (Nat.lt_succ_of_lt hlS) hsz.symm)
        have hSf : s.heap.objs.size ∉ [(s.heap.push { cls := .type "set", dict := none, data := .set #[] 0 (.fresh 0 0 (!w.params.followText "set-order")) }).objs.size, l] := by
          rw [hsz]
          simp only [List.mem_cons, List.not_mem_nil, or_false, not_or]
          exact ⟨Nat.ne_of_lt (Nat.lt_succ_self _), Nat.ne_of_gt hlS⟩
        have hval : ∀ (i : Nat) (v : Value), items[i]? = some v → ∃ z t, zs[i]? = some z ∧ v = .str z t := fun i v hv => by
          obtain ⟨t, e⟩ := SS.strs_at hit i v (by rw [Array.getElem?_toList]; exact hv)
          have hi : i < zs.length := by rw [← StrsAre.len_eq hit, Array.length_toList]; exact (Array.getElem?_eq_some_iff.mp hv).1
          exact ⟨zs[i], t, List.getElem?_eq_getElem hi, by rw [e, List.getD_eq_getElem?_getD, List.getElem?_eq_getElem hi]; rfl⟩
        refine setL_loop ((Walks.list (show A.in1.in1.in1.handled = none by simp [hh]) _ l hneI items).toS) s.heap.objs.size hSf zs (by rw [← StrsAre.len_eq hit, Array.length_toList]) hn1 hval ⟨⟨_, Heap.get?_push_size _ rfl, rfl, rfl⟩, (hl1.push _)⟩
          (setL_new (Heap.get?_push_of_some _ hS)) fun s' es hm hst hS' => ?_
        obtain ⟨h', g2, d', tk', os'⟩ := s'
        obtain rfl : g2 = s.gens := hm.gens
        obtain rfl : d' = s.drawn := hm.drawn
        obtain rfl : os' = s.os := hm.os
        show wpAny _ _ _ _ _ _
        refine wpAny_pure ?_
        show wpAny _ _ (ret Value.none) _ _ _
        refine wpAny_pure ⟨rfl, h', tk', es, rfl, hS', hst, fun b o e => ?_⟩
        have hb0 : b < s.heap.objs.size := Heap.lt_size e
        refine hm.heap b o ?_ (Heap.get?_push_of_some _ (Heap.get?_push_of_some _ e))
        rw [hsz]
        simp only [List.mem_cons, List.not_mem_nil, or_false, not_or]
        exact ⟨Nat.ne_of_lt hb0, Nat.ne_of_lt (Nat.lt_succ_of_lt hb0)⟩
      · cases r₂ with
        | error e => exact hr₂
        | ok fl₂ =>
          cases fl₂ with
          | ret r =>
            obtain ⟨rfl, h', tk, es, rfl, hS', hst, hk'⟩ := hr₂
            repeat (any_goals (first | assumption | wp_step))
            exact h _ _ _ hS' hst hk'
          | _ => exact hr₂.elim
    | _ => exact hr.elim
end
section
variable {X : Cx} {a : Expr} {pos : Pos}
def tSortSet (K : PySem.W.Frag) (ta : TE) : TE := fun σ H Q => ta σ H fun x H1 => ∃ (l : Addr) (zs : List Str), x = V.ref l ∧ SqL K H1 l (zs.map V.str) ∧ zs.length ≤ 1 ∧ ∀ p, H1 p = none → Q (.ref p) (upd H1 p (.lst (zs.map V.str)))
theorem strs_perm {us vs : List Value} {zs : List Str} (h : StrsAre us zs) (h1 : zs.length ≤ 1) (p : vs.Perm us) : StrsAre vs zs := by
  cases h with
  | nil => rw [List.perm_nil.mp p]; exact .nil
  | cons z t r =>
    cases r with
    | nil => rw [List.perm_singleton.mp p]; exact .cons z t .nil
    | cons _ _ _ => simp at h1
theorem sorted_one {ys zs : List Str} (p : ys.Perm zs) (h1 : zs.length ≤ 1) : ys = zs := by
  match zs, h1, p with
  | [], _, p => exact List.perm_nil.mp p
  | [z], _, p => exact List.perm_singleton.mp p
theorem pe_sortSet {ta : TE} {p p2 q : Pos} (hc : X.calm = true) (hg : Gl X "sorted") (hm : X.mg "sorted" = none) (hg2 : Gl X "set") (hm2 : X.mg "set" = none) (ha : PE X a ta) (na : starEach [a] X.env = (false, eval a X.env) :: starEach [] X.env := by rfl) :
    PE X (.Call (.Name "sorted" p) [.Call (.Name "set" p2) [a] [] q] [] pos) (tSortSet X.K ta) := by
  refine ⟨fun pins s σ H Q I h => Call_ (ld_blt I hg hm PyProof.Rows.boot_sorted (PyProof.Rows.callWith_builtin1 (PyProof.Rows.args_cons ?_ rfl) rfl rfl))⟩
  refine Call_ (ld_blt I hg2 hm2 PyProof.Rows.boot_set (PyProof.Rows.callWith_type1 (PyProof.Rows.args_cons (thn (ha.run pins s σ H _ I h) fun v s1 ⟨x, H1, I1, r1, q1⟩ => PyProof.Rows.args_nil ?_) na) na rfl))
  obtain ⟨l, zs, rfl, hq, h1, q1⟩ := q1
  cases r1
  obtain ⟨its, r, pl, hz⟩ := I1.list hq
  refine call_setL zs (I1.ok.hd hc) pl.isList (by simpa using strsAre_of r) h1 fun h' tk es R hst hk => PyProof.Rows.args_nil ?_
  have I2 : Inv X pins σ H1 { s1 with heap := h', toks := tk } := I1.kept hk
  obtain ⟨o, ea, ep, t, ho, hex, hd, he, hf, hr, hl⟩ := R
  have hsz : ea.size ≤ 1 := by
    have := StrsAre.len_eq hst
    rw [List.length_map, ← he, Array.length_toList] at this
    omega
  refine Calls.call_function_entry PyProof.Rows.kind_sorted PyProof.Rows.plain_sorted PyProof.Rows.entry_sorted (PyProof.Rows.args_sorted1 _) ?_
  unfold Builtin.«sorted»
  refine wpAny_bind (m := checkCount "sorted" 1 1 _) (wpAny_pure ?_)
  refine wpAny_bind (collect_set (s := { s1 with heap := h', toks := tk }) (A := X.A.in1) (I2.ok.hd hc) ⟨o, ho, hex.1, hd⟩ hf (by unfold scanBound; omega) hr hl fun s3 vs k1 hz3 g1 o1 pm => ?_)
  rw [he] at pm
  have hS := strs_perm hst h1 pm
  have hvl : vs.length = zs.length := StrsAre.len_eq hS
  refine wpAny_bind (wpAny_newList ?_ (by rw [hvl, sizeLine_eq]; omega))
  have hoL : (s3.heap.push (seqObj "list" vs.toArray 0)).get? s3.heap.objs.size = some (seqObj "list" vs.toArray 0) := Heap.get?_push_size _ rfl
  refine wpAny_bind (wpAny_holding (wpAny_call_entry PyProof.Rows.slot_list_sort ⟨_, hoL, rfl⟩ PyProof.Rows.entry_list_sort
    (list_sort_treeK strKind_oneLt (s := { s3 with heap := s3.heap.push (seqObj "list" vs.toArray 0) }) hoL hS.keysOf (fun v₁ v₂ rest e => keyKind_strs (by rw [← e]; exact hS)) (by omega) fun st' hp hs => ⟨_, rfl, ?_⟩)
    (PyProof.Rows.args_list_sort _)))
  obtain ⟨ys, y1, y2, y3⟩ := sorted_out_str hS hp hs
  obtain rfl := sorted_one y2 h1
  obtain ⟨e', he'⟩ := PyProof.Rows.sortedHeap_at (vs := vs) (out := (arrOf st').map (·.2)) hoL
  have hn : H1 s3.heap.objs.size = none := I2.hok.fresh hz3
  have hlen : (ys.map V.str).length ≤ sizeLine := by rw [List.length_map, sizeLine_eq]; omega
  have kk : ∀ b u, h'.get? b = some u → (PyProof.Rows.sortedHeap (s3.heap.push (seqObj "list" vs.toArray 0)) s3.heap.objs.size vs ((arrOf st').map (·.2))).get? b = some u := fun b u e => by
    have q := k1 b u e
    have hlt := Heap.lt_size q
    rw [PyProof.Rows.sortedHeap_old (Nat.ne_of_lt hlt) (by rw [size_push']; exact Nat.lt_succ_of_lt hlt)]
    exact Heap.get?_push_of_some _ q
  obtain ⟨hh3, gg3, dd3, tk3, os3⟩ := s3
  obtain rfl : gg3 = s1.gens := g1
  obtain rfl : os3 = s1.os := o1
  have J : Inv X pins σ (upd H1 hh3.objs.size (.lst (ys.map V.str))) { ({ s1 with heap := h', toks := tk } : Shared) with heap := PyProof.Rows.sortedHeap (hh3.push (seqObj "list" vs.toArray 0)) hh3.objs.size vs ((arrOf st').map (·.2)), gens := s1.gens, drawn := dd3, toks := tk3 } :=
    I2.call (ch := []) (Un.laid kk hz3 hn) (I2.hok.laid kk hz3 ⟨hlen, ((arrOf st').map (·.2)).toList, e', vals_of_strs y1, by rw [Array.toArray_toList]; exact he'⟩) I1.bare (fun _ z => nomatch z)
  exact wpAny_pure ⟨_, rfl, .ref hh3.objs.size, upd H1 hh3.objs.size (.lst (ys.map V.str)), J, rfl, q1 _ hn⟩
end
end Fm
set_option Elab.async false
set_option linter.all false
set_option maxRecDepth 100000
set_option maxHeartbeats 3200000
set_option autoImplicit false
namespace Fm
open PySem PySem.Spec PyProof.Rows L2
open Evl (Ex ex_l ex_t ex_rd)
open WPM
section
variable {M : Type → Type} [WPM M] {X : Cx} {bx : Bx} {a : Expr} {ma : En → M D} {pos : Pos}
def D.strs : List D → Option (List Str)
  | [] => some []
  | .str z :: r => match D.strs r with
    | some l => some (z :: l)
    | none => none
  | _ :: _ => none
theorem strs_of {K : PySem.W.Frag} {Hf : Hp} : ∀ {ds : List D} {vs : List V} {zs : List Str}, RpL K Hf ds vs → D.strs ds = some zs → vs = zs.map V.str ∧ ds = zs.map D.str
  | [], _, zs, .nil, e => by cases e; exact ⟨rfl, rfl⟩
  | d :: ds, _ :: vs, zs, .cons h r, e => by
    cases d with
    | str z =>
      rw [D.strs] at e
      cases q : D.strs ds with
      | none => rw [q] at e; cases e
      | some l =>
        rw [q] at e; cases e
        cases h
        obtain ⟨e1, e2⟩ := strs_of r q
        exact ⟨by rw [e1]; rfl, by rw [e2]; rfl⟩
    | _ => cases e
theorem rel_strs {K : PySem.W.Frag} {Hf : Hp} : ∀ zs : List Str, RpL K Hf (zs.map D.str) (zs.map V.str)
  | [] => .nil
  | z :: zs => .cons (.str z) (rel_strs zs)
def fSort1 : D → Option D
  | .lst xs => (D.strs xs).bind fun zs => ifD (zs.length ≤ 1) (.lst xs)
  | _ => none
theorem pm_sortSet {p p2 q : Pos} (hc : X.calm = true) (hg : Gl X "sorted") (hm : X.mg "sorted" = none) (hg2 : Gl X "set") (hm2 : X.mg "set" = none) (ha : BM X bx a ma) (na : starEach [a] X.env = (false, eval a X.env) :: starEach [] X.env := by rfl) :
    PM X bx (.Call (.Name "sorted" p) [.Call (.Name "set" p2) [a] [] q] [] pos) (mUn fSort1 ma) := by
  obtain ⟨ta, a1, a2⟩ := ha.ex
  refine ⟨_, pe_sortSet hc hg hm hg2 hm2 a1 na, fun {Hf0 H0 E σ Hf H} I {P} w Q q => ?_⟩
  refine a2 I (wp_bind w) _ fun d v Hf2 H2 w2 s2 o2 r2 => ?_
  obtain ⟨y, ey, p⟩ := wp_lift w2
  cases d with
  | lst xs =>
    obtain ⟨p1, vs, rfl, h1, r3⟩ := r2.lst s2.i
    replace ey : ((D.strs xs).bind fun zs => ifD (zs.length ≤ 1) (.lst xs)) = some y := ey
    cases en : D.strs xs with
    | none => rw [en] at ey; cases ey
    | some zs =>
      rw [en] at ey
      obtain ⟨hl, rfl⟩ := ifD_some ey
      obtain ⟨rfl, rfl⟩ := strs_of r3 en
      exact ⟨p1, zs, rfl, .of h1, hl, fun o ho => rv_lst s2.i o2 r3 ho fun v Hf3 H3 s3 o3 r4 => q _ v Hf3 H3 p (s2.trans s3) o3 r4⟩
  | _ => cases ey
end
/-! ### sorted(xs): two pairs of texts, told by their first ones -/
abbrev ltS (x y : Str) : Bool := decide (x.cps.toList < y.cps.toList)
def IsPairS (h : Heap) (v : Value) (x y : Str) : Prop := ∃ a o t u n, v = .ref a ∧ h.get? a = some o ∧ o.cls = .type "tuple" ∧ o.data = .seq #[.str x t, .str y u] n
theorem IsPairS.keeps {h h' : Heap} {v : Value} {x y : Str} (p : IsPairS h v x y) (k : ∀ b o, h.get? b = some o → o.cls = .type "tuple" → h'.get? b = some o) : IsPairS h' v x y := by
  obtain ⟨a, o, t, u, n, e, ho, hc, hd⟩ := p
  exact ⟨a, o, t, u, n, e, k _ _ ho hc, hc, hd⟩
section
variable {prog : Program} {w : World} {A : Around} {E : Value → Shared → Prop} {s : Shared}
theorem pairS_lt {v u : Value} {x y x' y' : Str} {Q : Bool → Shared → Prop} (h1 : IsPairS s.heap v x y) (h2 : IsPairS s.heap u x' y') (he : x = x' → y = y') (hq : Q (if x = x' then false else ltS x x') s) : wpAny (model prog w) A (keyLt' (tuples' true) v u) Q E s := by
  obtain ⟨a, o, t, u, n, rfl, ho, hc, hd⟩ := h1
  obtain ⟨a', o', t', u', n', rfl, ho', hc', hd'⟩ := h2
  refine PySem.W.kat_lt ho hd ho' hd' ?_
  show PySem.W.KatLex prog w A true (decide (2 < 2)) _ [(.str x t, .str x' t'), (.str y u, .str y' u')] 0 s
  refine PySem.W.kat_cons (SeqAt.EqAt.str_str x t x' t' prog w _ _ (PySem.W.kat_go (fun e1 => ?_) fun e1 => ?_))
  · have ex : x = x' := by simpa using e1
    rw [if_pos ex] at hq
    obtain rfl := he ex
    refine PySem.W.kat_yes (PySem.W.kat_cons (SeqAt.EqAt.str_str y u y u' prog w _ _ (PySem.W.kat_go (fun _ => PySem.W.kat_yes (PySem.W.kat_nil hq)) fun e2 => ?_)))
    simp at e2
  · have ex : ¬ x = x' := by simpa using e1
    rw [if_neg ex] at hq
    exact PySem.W.kat_no (oneLt_any_str hq)
def rk2 (a1 : Addr) (b : Bool) (v : Value) : Int × Int := match v with
  | .ref a => (if a = a1 then (if b then 0 else 1) else (if b then 1 else 0), 0)
  | _ => (0, 0)
theorem sorted_two {l a1 a2 : Addr} {x1 y1 x2 y2 : Str} {b : Bool} {Q : Value → Shared → Prop} (hl : s.heap.IsList l [Value.ref a1, Value.ref a2].toArray) (p1 : IsPairS s.heap (.ref a1) x1 y1) (p2 : IsPairS s.heap (.ref a2) x2 y2) (hb : ltS x1 x2 = b) (hb' : ltS x2 x1 = !b)
    (h : ∀ (h' : Heap) (d : Addr), (∀ b o, s.heap.get? b = some o → h'.get? b = some o) → s.heap.objs.size ≤ d → (∃ n, h'.get? d = some (seqObj "list" (if b then [Value.ref a1, Value.ref a2] else [Value.ref a2, Value.ref a1]).toArray n)) → Q (.ref d) { s with heap := h' }) :
    wpAny (model prog w) A (call (.builtin "sorted") [.ref l]) Q E s := by
  have hx : x1 ≠ x2 := fun z => by subst z; rw [hb] at hb'; cases b <;> cases hb'
  have ha : a1 ≠ a2 := fun z => by
    subst z
    obtain ⟨_, o, t, u, n, e, ho, hc, hd⟩ := p1
    obtain ⟨_, o', t', u', n', e', ho', hc', hd'⟩ := p2
    cases e; cases e'
    rw [ho] at ho'; cases ho'
    rw [hd] at hd'
    have := congrArg (fun d : Data => match d with | .seq xs _ => xs.toList | _ => []) hd'
    simp at this
    exact hx this.1.1
  refine SrtO.sorted_ord (SrtO.swo_lex (rk2 a1 b)) hl (by show 2 ≤ sizeLine; decide) (fun h2 h₁ a ho kk => ?_) fun out hs hst => ?_
  · intro h' keep
    have hcl : ∀ o, h₁.get? a = some o → o.cls ≠ .type "tuple" := fun o e => by
      have e' := e.symm.trans ho
      cases e'
      exact fun c => absurd (Value.type.inj c) (by decide)
    have go : ∀ {v : Value} {x y : Str}, IsPairS s.heap v x y → IsPairS h' v x y := fun p => p.keeps fun c o e t => keep c o (fun z => hcl o (by rw [← z]; exact (kk c o e).2) t) (kk c o e).2
    have q1 := go p1
    have q2 := go p2
    refine ⟨tuples' true, fun Q E hq => ?_, fun p q hp hq => ?_⟩
    · obtain ⟨_, o1, t1, u1, n1, e1, ho1, hc1, hd1⟩ := q1
      obtain ⟨_, o2, t2, u2, n2, e2, ho2, hc2, hd2⟩ := q2
      cases e1; cases e2
      refine PySem.W.kat_kind (T := .type "str") (PySem.W.KatTups.cons ho1 hc1 hd1 rfl (PySem.W.KatTups.cons ho2 hc2 hd2 rfl PySem.W.KatTups.nil)) (by simp) (fun f hm => ?_) (by rfl) ?_
      · rcases List.mem_cons.mp hm with z | hm
        · rw [z]; exact PySem.W.Looks.now
        · rw [List.mem_singleton.mp hm]; exact PySem.W.Looks.now
      · have e : (Value.type "str" != Value.type "tuple") = true := by decide
        rw [e]
        exact hq
    · have hp' : p.1 = .ref a1 ∨ p.1 = .ref a2 := by simpa using hp
      have hq' : q.1 = .ref a1 ∨ q.1 = .ref a2 := by simpa using hq
      show wpAny _ _ (keyLt' (tuples' true) p.1 q.1) (fun r s' => s' = _ ∧ r = SrtO.lexB (rk2 a1 b p.1) (rk2 a1 b q.1)) _ _
      have na : ¬ a2 = a1 := fun z => ha z.symm
      rcases hp' with e | e <;> rcases hq' with e' | e' <;> rw [e, e']
      · exact pairS_lt q1 q1 (fun _ => rfl) ⟨rfl, by rw [if_pos rfl]; simp [SrtO.lexB, rk2]⟩
      · refine pairS_lt q1 q2 (fun z => absurd z hx) ⟨rfl, ?_⟩
        rw [if_neg hx, hb]
        cases b <;> simp [SrtO.lexB, rk2, na]
      · refine pairS_lt q2 q1 (fun z => absurd z.symm hx) ⟨rfl, ?_⟩
        rw [if_neg (Ne.symm hx), hb']
        cases b <;> simp [SrtO.lexB, rk2, na]
      · exact pairS_lt q2 q2 (fun _ => rfl) ⟨rfl, by rw [if_pos rfl]; simp [SrtO.lexB, rk2]⟩
  · have key : out = if b then [Value.ref a1, Value.ref a2] else [Value.ref a2, Value.ref a1] := by
      have na : ¬ a2 = a1 := fun z => ha z.symm
      have hp := hst.perm
      have hlen : out.length = 2 := hp.length_eq
      match out, hlen, hs, hp with
      | [u, v], _, hs, hp =>
        have hu : u = .ref a1 ∨ u = .ref a2 := by simpa using hp.mem_iff.mp (List.mem_cons_self (a := u) (l := [v]))
        have hv : v = .ref a1 ∨ v = .ref a2 := by simpa using hp.mem_iff.mp (List.mem_cons_of_mem u (List.mem_singleton.mpr rfl))
        have nd : u ≠ v := by
          have : [Value.ref a1, Value.ref a2].Nodup := by simp; exact ha
          have := hp.nodup_iff.mpr this
          simpa using this
        have hs' : SrtO.lexB (rk2 a1 b v) (rk2 a1 b u) = false := by
          have := List.pairwise_cons.mp hs
          exact this.1 v (List.mem_singleton.mpr rfl)
        rcases hu with rfl | rfl <;> rcases hv with rfl | rfl
        · exact absurd rfl nd
        · cases b
          · simp [SrtO.lexB, rk2, na] at hs'
          · rfl
        · cases b
          · rfl
          · simp [SrtO.lexB, rk2, na] at hs'
        · exact absurd rfl nd
    have at' := sortedAll_at s.heap [Value.ref a1, Value.ref a2] out.toArray
    refine h (sortedAll s.heap [Value.ref a1, Value.ref a2] out.toArray) (s.heap.objs.size + 1) (fun b o e => sortedAll_old e) (Nat.le_succ _) ?_
    rw [← key]
    exact at'
end
theorem perm_short {α : Type} {l m : List α} (p : l.Perm m) (h : m.length ≤ 1) : l = m := by
  match m, h, p with
  | [], _, p => exact List.perm_nil.mp p
  | [z], _, p => exact List.perm_singleton.mp p
def rSort2 (K : PySem.W.Frag) : List V → Hp → VK → Prop := fun vs H Q => ∃ (a : Addr) (xs : List V), vs = [V.ref a] ∧ SqL K H a xs ∧ ((xs.length ≤ 1 ∧ ∀ p, H p = none → Q (.ref p) (upd H p (.lst xs))) ∨
  ∃ (t1 t2 : Addr) (x1 y1 x2 y2 : Str) (b : Bool), xs = [.ref t1, .ref t2] ∧ SqT K H t1 [.str x1, .str y1] ∧ SqT K H t2 [.str x2, .str y2] ∧ ltS x1 x2 = b ∧ ltS x2 x1 = (!b) ∧ ∀ p, H p = none → Q (.ref p) (upd H p (.lst (if b then [.ref t1, .ref t2] else [.ref t2, .ref t1]))))
section
variable {X : Cx}
theorem pairS_of {pins : List (Addr × Obj)} {σ : L2.St} {H : Hp} {s : Shared} {t : Addr} {x y : Str} (I : Inv X pins σ H s) (h : SqT X.K H t [.str x, .str y]) : IsPairS s.heap (.ref t) x y := by
  obtain ⟨its, rv, p, hz⟩ := I.tuple h
  obtain ⟨u1, u2, rfl, r1, r2⟩ : ∃ u1 u2, its = [u1, u2] ∧ RelV (.str x) u1 ∧ RelV (.str y) u2 := by
    cases rv with
    | cons a b =>
      cases b with
      | cons a2 b2 => cases b2; exact ⟨_, _, rfl, a, a2⟩
  obtain ⟨t1, rfl⟩ := r1
  obtain ⟨t2, rfl⟩ := r2
  obtain ⟨o, ho, hc, n, hd⟩ := (show s.heap.IsTuple t [Value.str x t1, Value.str y t2].toArray from p)
  exact ⟨t, o, t1, t2, n, rfl, ho, hc, hd⟩
theorem cr_sort2 : CallR X (.builtin "sorted") (rSort2 X.K) := by
  intro pins s σ H vs us Q I r h
  obtain ⟨a, xs, rfl, hs, h⟩ := h
  obtain ⟨its, rv, hl, hz⟩ := I.list hs
  obtain ⟨u, rfl, ru⟩ := vals1 r
  obtain rfl : u = Value.ref a := ru
  rcases h with ⟨h1, q⟩ | ⟨t1, t2, x1, y1, x2, y2, b, rfl, g1, g2, hb, hb', q⟩
  · have hlen : its.length ≤ 1 := by rw [← rv.length]; exact h1
    refine SrtO.sorted_ord (ltv := fun _ _ => false) ⟨fun _ _ z => (by cases z), fun _ _ _ _ _ => rfl⟩ hl.isList (by rw [← rv.length]; exact hz) (fun h2 => by omega) fun out _ hst => ?_
    have e : out = its := perm_short hst.perm hlen
    obtain ⟨n, hn⟩ := sortedAll_at s.heap its out.toArray
    exact ⟨.ref (s.heap.objs.size + 1), upd H (s.heap.objs.size + 1) (.lst xs), I.laid (t' := s.toks) (fun b o e => sortedAll_old e) (Nat.le_succ _) ⟨hz, out, n, by rw [e]; exact rv, hn⟩, rfl, q _ (I.hok.fresh (Nat.le_succ _))⟩
  · obtain ⟨u1, u2, rfl, r1, r2⟩ : ∃ u1 u2, its = [u1, u2] ∧ RelV (.ref t1) u1 ∧ RelV (.ref t2) u2 := by
      cases rv with
      | cons a b =>
        cases b with
        | cons a2 b2 => cases b2; exact ⟨_, _, rfl, a, a2⟩
    cases (show u1 = Value.ref t1 from r1)
    cases (show u2 = Value.ref t2 from r2)
    refine sorted_two hl.isList (pairS_of I g1) (pairS_of I g2) hb hb' fun h' d keep hd hn => ?_
    obtain ⟨n, hn⟩ := hn
    refine ⟨.ref d, upd H d (.lst (if b then [.ref t1, .ref t2] else [.ref t2, .ref t1])), I.laid (t' := s.toks) keep hd ⟨?_, _, n, ?_, hn⟩, rfl, q d (I.hok.fresh hd)⟩
    · cases b <;> exact hz
    · cases b
      · exact .cons rfl (.cons rfl .nil)
      · exact .cons rfl (.cons rfl .nil)
end
def D.pairS : D → Option (Str × Str)
  | .tup ds => match D.strs ds with
    | some [x, y] => some (x, y)
    | _ => none
  | _ => none
theorem pairS_rel {K : PySem.W.Frag} {Hf : Hp} {d : D} {v : V} {p : Str × Str} (r : Rp K Hf d v) (e : d.pairS = some p) : ∃ t, v = .ref t ∧ SqT K Hf t [.str p.1, .str p.2] := by
  cases d with
  | tup ds =>
    cases r with
    | tup h r =>
      unfold D.pairS at e
      dsimp only at e
      cases q : D.strs ds with
      | none => rw [q] at e; cases e
      | some zs =>
        rw [q] at e
        obtain ⟨rfl, _⟩ := strs_of r q
        match zs, e with
        | [x, y], e => cases e; exact ⟨_, rfl, h⟩
  | _ => cases e
def sort2 (a b : D) : Option D := match a.pairS, b.pairS with
  | some p, some q => if ltS q.1 p.1 = (!ltS p.1 q.1) then some (.lst (if ltS p.1 q.1 then [a, b] else [b, a])) else none
  | _, _ => none
def sortL (xs : List D) : Option D := if xs.length ≤ 1 then some (.lst xs) else match xs with
  | [a, b] => sort2 a b
  | _ => none
def fSort2 : List D → Option D
  | [.lst xs] => sortL xs
  | _ => none
theorem rc_sort2 {K : PySem.W.Frag} {bx : Bx} : RcM K bx (rSort2 K) fSort2 := by
  intro Hf H ds d vs hi bo r e Q q
  have main : ∀ xs : List D, ds = [.lst xs] → sortL xs = some d → rSort2 K vs H Q := by
    intro xs e1 e2
    subst e1
    obtain ⟨v, rfl, r1⟩ := r.one
    obtain ⟨p, us, rfl, h1, r2⟩ := r1.lst hi
    unfold sortL at e2
    by_cases hl : xs.length ≤ 1
    · rw [if_pos hl] at e2
      cases e2
      exact ⟨p, us, rfl, .of h1, .inl ⟨by rw [← r2.length]; exact hl, fun o ho => rv_lst hi bo r2 ho q⟩⟩
    · rw [if_neg hl] at e2
      match xs, e2, r2 with
      | [a, b], e2, .cons ra (.cons rb .nil) =>
        replace e2 : sort2 a b = some d := e2
        unfold sort2 at e2
        cases ea : a.pairS with
        | none => rw [ea] at e2; cases e2
        | some pa =>
          cases eb : b.pairS with
          | none => rw [ea, eb] at e2; cases e2
          | some pb =>
            rw [ea, eb] at e2
            dsimp only at e2
            by_cases hb : ltS pb.1 pa.1 = (!ltS pa.1 pb.1)
            · rw [if_pos hb] at e2
              cases e2
              obtain ⟨ta, rfl, ga⟩ := pairS_rel ra ea
              obtain ⟨tb, rfl, gb⟩ := pairS_rel rb eb
              refine ⟨p, _, rfl, .of h1, .inr ⟨ta, tb, pa.1, pa.2, pb.1, pb.2, ltS pa.1 pb.1, rfl, ex_t hi ga, ex_t hi gb, rfl, hb, fun o ho => ?_⟩⟩
              refine rv_lst hi bo ?_ ho q
              cases ltS pa.1 pb.1
              · exact .cons rb (.cons ra .nil)
              · exact .cons ra (.cons rb .nil)
            · rw [if_neg hb] at e2; cases e2
  cases ds with
  | nil => cases e
  | cons x r2 =>
    cases r2 with
    | nil =>
      cases x with
      | lst xs => exact main xs rfl e
      | _ => cases e
    | cons _ _ => cases x <;> cases e
end Fm
set_option Elab.async false
set_option linter.all false
set_option maxRecDepth 100000
set_option maxHeartbeats 2000000
set_option autoImplicit false
namespace Fm
open PySem PySem.Spec PyProof.Rows L2
open Evl (Ex ex_l ex_t ex_rd)
open WPM
/-! ### pieces that compute, within a walk by hand -/
section
variable {K : PySem.W.Frag} {Hf H : Hp} {E : En} {σ : L2.St}
def noOw : Sl → Bool
  | .un => true
  | .sh _ => true
  | _ => false
theorem env_hand (i : Ex Hf H) (hl : σ.length = E.length) (hn : E.all noOw = true) (h : ∀ (j : Nat) (d : D), E[j]? = some (Sl.sh d) → ∃ v, σ[j]? = some (some v) ∧ Rp K Hf d v) : EnvOk K none Hf H E σ Hf H := by
  have no : ∀ {j : Nat} {s : Sl}, E[j]? = some s → noOw s = true := fun e => List.all_eq_true.mp hn _ (List.mem_of_getElem? e)
  refine ⟨.refl i, trivial, fun a z => z.elim, hl, fun j s e => ?_, fun j k s t p n e1 e2 o1 o2 v1 v2 => ?_⟩
  · have q := no e
    cases s with
    | un => trivial
    | sh d => exact h j d e
    | _ => cases q
  · have q := no e1
    cases s with
    | un => exact o1.elim
    | sh d => exact o1.elim
    | _ => cases q
theorem run_e {me : En → Option D} {d : D} (I : EnvOk K none Hf H E σ Hf H) (w : me E = some d) {Q : VK} (q : ∀ v Hf2 H2, Step nB Hf H Hf2 H2 → Rp K Hf2 d v → Q v H2) : cE K none me σ H Q :=
  ⟨Hf, H, E, Hf, fun d' => d' = d, I, ⟨d, w, rfl⟩, fun d' v Hf2 H2 e s _ r => q v Hf2 H2 (s.wk fun _ z => z) (e ▸ r)⟩
theorem run_t {me : En → Option Bool} {d : Bool} (I : EnvOk K none Hf H E σ Hf H) (w : me E = some d) {Q : Bool → Hp → Prop} (q : ∀ Hf2 H2, Step nB Hf H Hf2 H2 → Q d H2) : cT K none me σ H Q :=
  ⟨Hf, H, E, Hf, fun d' => d' = d, I, ⟨d, w, rfl⟩, fun d' Hf2 H2 e s _ => by rw [e]; exact q Hf2 H2 (s.wk fun _ z => z)⟩
end
end Fm
set_option Elab.async false
set_option linter.all false
set_option maxRecDepth 100000
set_option maxHeartbeats 2000000
set_option autoImplicit false
namespace Fm
open PySem PySem.Spec PyProof.Rows L2
open Evl (Ex ex_l ex_t ex_rd)
open WPM
/-! ### a dict of the module whose values are defs -/
/-- a def at an address -/
structure Held1 (P : Program) (w : World) (K : PySem.W.Frag) (mg : Str → Option Value) (base : Heap) (k : Nat) (a : Addr) (n : Nat) (g : List D → Option D) : Prop where
  ex : ∃ fd ps, FnOk P w K mg base CX0 k a fd ps (spP K n g) ∧ PySem.W.keepIn K (.ref a) = true ∧ Binds K fd ps []
/-- the dict at the name x: for each word of tb what it holds -/
structure TabOk (P : Program) (w : World) (K : PySem.W.Frag) (mg : Str → Option Value) (base : Heap) (k : Nat) (x : Str) (n : Nat) (tb : List (Str × Option (List D → Option D))) : Prop where
  ex : ∃ d es m, mg x = some (.ref d) ∧ KDict K w d es m ∧ ∀ p ∈ tb, match p.2 with
    | none => PySem.W.nsIn K d p.1 = some none
    | some g => ∃ a, PySem.W.nsIn K d p.1 = some (some (.ref a)) ∧ Held1 P w K mg base k a n g
section
variable {M : Type → Type} [WPM M] {X : Cx} {bx : Bx} {e i : Expr} {es : List Expr} {mi : En → M D} {ms : En → M (List Sl)} {pos p p2 : Pos} {k n : Nat} {x : Str} {tb : List (Str × Option (List D → Option D))}
def tabAt (tb : List (Str × Option (List D → Option D))) : D → Option (Option (List D → Option D))
  | .str z => (tb.find? fun q => decide (q.1 = z)).map (·.2)
  | _ => none
theorem tabAt_of {tb : List (Str × Option (List D → Option D))} {d : D} {o : Option (List D → Option D)} (h : tabAt tb d = some o) : ∃ z, d = .str z ∧ (z, o) ∈ tb := by
  cases d with
  | str z =>
    replace h : (tb.find? fun q => decide (q.1 = z)).map (·.2) = some o := h
    cases e : tb.find? fun q => decide (q.1 = z) with
    | none => rw [e] at h; cases h
    | some q =>
      rw [e] at h; cases h
      have h1 := List.find?_some e
      have h2 := List.mem_of_find?_eq_some e
      obtain ⟨a, b⟩ := q
      obtain rfl : a = z := by simpa using h1
      exact ⟨_, rfl, h2⟩
  | _ => cases h
def mKin (tb : List (Str × Option (List D → Option D))) (mi : En → M D) : En → M D := fun E => mi E >>= fun z => lift (tabAt tb z) >>= fun o => pure (.bl o.isSome)
theorem pm_kin (T : TabOk X.prog X.w X.K X.mg X.base k x n tb) (hg : Gl X x) (hi : BM X bx i mi) (hd : (x == ("__debug__" : Str)) = false := by decide) (hm : behindInMarks .In (.Name x p) = false := by rfl) : PM X bx (.Compare i [.In] [.Name x p] pos) (mKin tb mi) := by
  obtain ⟨d, es, m, hmg, D, h⟩ := T.ex
  obtain ⟨ti, i1, i2⟩ := hi.ex
  refine ⟨_, pe_cmpR (op_in_kd D) i1 (pe_glob hg hmg (v := .ref d) rfl hd) hm, fun {Hf0 H0 E σ Hf H} I {P} w Q q => ?_⟩
  refine i2 I (wp_bind w) _ fun z v Hf2 H2 w2 s2 o2 r2 => ?_
  obtain ⟨o, eo, w3⟩ := wp_lift (wp_bind w2)
  obtain ⟨y, rfl, hin⟩ := tabAt_of eo
  obtain rfl := r2.str
  have hh := h _ hin
  cases o with
  | none => exact ⟨y, none, rfl, rfl, hh, q _ _ Hf2 H2 (wp_pure w3) s2 o2 (.bl _)⟩
  | some g =>
    obtain ⟨a, ha, _⟩ := hh
    exact ⟨y, _, rfl, rfl, ha, q _ _ Hf2 H2 (wp_pure w3) s2 o2 (.bl _)⟩
def mDisp (n : Nat) (tb : List (Str × Option (List D → Option D))) (mi : En → M D) (ms : En → M (List Sl)) : En → M D := fun E => mi E >>= fun z => match tabAt tb z with
  | some (some g) => ms E >>= fun ss => lift (shs ss) >>= fun ds => if ds.length = n then lift (g ds) else fail
  | _ => fail
theorem pm_disp (T : TabOk X.prog X.w X.K X.mg X.base k x n tb) (hr : Room k X.A) (hg : Gl X x) (hi : BM X bx i mi) (ha : CM X bx (e :: es) ms) (hs : NoSl i) (hd : (x == ("__debug__" : Str)) = false := by decide)
    (hc : eval (.Call (.Subscript (.Name x p) i p2) (e :: es) [] pos) X.env = (do callWith pos (← eval (.Subscript (.Name x p) i p2) X.env) [] (backTo pos (starEach (e :: es) X.env)) (backToKw pos (keywordEach [] X.env))) := by rfl)
    (he : starEach (e :: es) X.env = (false, eval e X.env) :: starEach es X.env := by rfl) (hpl : (backTo pos (starEach es X.env)).any (·.1) = false := by rfl) :
    PM X bx (.Call (.Subscript (.Name x p) i p2) (e :: es) [] pos) (mDisp n tb mi ms) := by
  obtain ⟨d, es', m, hmg, D, h⟩ := T.ex
  obtain ⟨ti, i1, i2⟩ := hi.ex
  obtain ⟨ta, a1, a2⟩ := ha.ex
  have hix := pe_ix (pos := p2) ix_kdict (pe_glob (pos := p) hg hmg (v := .ref d) rfl hd) i1 hs
  have hcall : PE X (.Call (.Subscript (.Name x p) i p2) (e :: es) [] pos) (fun σ H Q => tOp (rIxD X.K X.w) (tC (.ref d)) ti σ H fun f H1 => ∃ a g, f = .ref a ∧ Held1 X.prog X.w X.K X.mg X.base k a n g ∧ ta σ H1 fun vs H2 => spP X.K n g vs H2 Q fun _ _ _ => False) := by
    refine ⟨fun pins s σ H Q I hq => ?_⟩
    rw [hc]
    refine wpAny_bind (thn (hix.run pins s σ H _ I hq) fun u s1 ⟨f, H1, I1, r1, a, g, ef, hg1, q1⟩ => ?_)
    subst ef
    obtain rfl : u = Value.ref a := r1
    obtain ⟨fd, ps, F, hk, hb⟩ := hg1.ex
    refine PySem.W.callWith_K (h₀ := X.base) I1.ok.mod.kin hk (thn (a1.run pos pins s1 σ H1 _ I1 q1) fun us s2 ⟨vs, H2, I2, r, q⟩ => ⟨I2.kIn, ?_⟩) he hpl
    exact run_fn (dvs := []) F hr hb .nil pass0 I2 r (by rw [List.append_nil]; exact q)
  refine ⟨_, hcall, fun {Hf0 H0 E σ Hf H} I {P} w Q q => ?_⟩
  refine i2 I (wp_bind w) _ fun z v Hf2 H2 w2 s2 o2 r2 => ?_
  cases eo : tabAt tb z with
  | none => rw [eo] at w2; exact absurd w2 wp_fail
  | some o =>
    rw [eo] at w2
    cases o with
    | none => exact absurd w2 wp_fail
    | some g =>
      obtain ⟨y, rfl, hin⟩ := tabAt_of eo
      obtain rfl := r2.str
      obtain ⟨a, ha, hld⟩ := h _ hin
      refine ⟨d, y, .ref a, rfl, rfl, ⟨es', m, .ref a, D.at_, D.lit, ha, rfl⟩, a, g, rfl, hld, ?_⟩
      refine a2 (I.step s2 o2) (wp_bind w2) _ fun ss vs Hf3 H3 w3 s3 o3 r3 => ?_
      obtain ⟨ds, e1, w4⟩ := wp_lift (wp_bind w3)
      split at w4
      case isFalse => exact absurd w4 wp_fail
      case isTrue hl =>
      obtain ⟨dd, e2, w5⟩ := wp_lift w4
      exact ⟨Hf3, ds, dd, s3.i, shs_of r3 e1, hl, e2, fun v Hf4 H4 s4 r4 => q dd v Hf4 H4 w5 ((s2.trans s3).trans (s4.wk fun _ z => z.elim)) (o3.call s4) r4⟩
/-! ### a def that a slot holds -/
def mCallV (j n : Nat) (S : Addr → Option (List D → Option D)) (ms : En → M (List Sl)) : En → M D := fun E => match E[j]? with
  | some (.sh (.fn a)) => lift (S a) >>= fun g => ms E >>= fun ss => lift (shs ss) >>= fun ds => if ds.length = n then lift (g ds) else fail
  | _ => fail
theorem pm_callV (j : Nat) {S : Addr → Option (List D → Option D)} (A : ∀ a g, S a = some g → Held1 X.prog X.w X.K X.mg X.base k a n g) (hr : Room k X.A) (hv : PE X (.Name x p) (tVar j)) (ha : CM X bx (e :: es) ms)
    (he : starEach (e :: es) X.env = (false, eval e X.env) :: starEach es X.env := by rfl) (hpl : (backTo pos (starEach es X.env)).any (·.1) = false := by rfl) :
    PM X bx (.Call (.Name x p) (e :: es) [] pos) (mCallV j n S ms) := by
  obtain ⟨ta, a1, a2⟩ := ha.ex
  have hcall : PE X (.Call (.Name x p) (e :: es) [] pos) (fun σ H Q => tVar j σ H fun f H1 => ∃ a g, f = .ref a ∧ Held1 X.prog X.w X.K X.mg X.base k a n g ∧ ta σ H1 fun vs H2 => spP X.K n g vs H2 Q fun _ _ _ => False) := by
    refine ⟨fun pins s σ H Q I hq => ?_⟩
    refine wpAny_Call_Name_kw (thn (hv.run pins s σ H _ I hq) fun u s1 ⟨f, H1, I1, r1, a, g, ef, hg1, q1⟩ => ?_)
    subst ef
    obtain rfl : u = Value.ref a := r1
    obtain ⟨fd, ps, F, hk, hb⟩ := hg1.ex
    refine PySem.W.callWith_K (h₀ := X.base) I1.ok.mod.kin hk (thn (a1.run pos pins s1 σ H1 _ I1 q1) fun us s2 ⟨vs, H2, I2, r, q⟩ => ⟨I2.kIn, ?_⟩) he hpl
    exact run_fn (dvs := []) F hr hb .nil pass0 I2 r (by rw [List.append_nil]; exact q)
  refine ⟨_, hcall, fun {Hf0 H0 E σ Hf H} I {P} w Q q => ?_⟩
  unfold mCallV at w
  cases e1 : E[j]? with
  | none => rw [e1] at w; exact absurd w wp_fail
  | some sl =>
    rw [e1] at w
    cases sl with
    | sh d =>
      cases d with
      | fn a =>
        obtain ⟨v, e2, r⟩ := I.at e1
        cases r
        obtain ⟨g, eg, w2⟩ := wp_lift (wp_bind w)
        refine ⟨.ref a, e2, a, g, rfl, A a g eg, ?_⟩
        refine a2 I (wp_bind w2) _ fun ss vs Hf3 H3 w3 s3 o3 r3 => ?_
        obtain ⟨ds, e3, w4⟩ := wp_lift (wp_bind w3)
        split at w4
        case isFalse => exact absurd w4 wp_fail
        case isTrue hl =>
        obtain ⟨dd, e4, w5⟩ := wp_lift w4
        exact ⟨Hf3, ds, dd, s3.i, shs_of r3 e3, hl, e4, fun v Hf4 H4 s4 r4 => q dd v Hf4 H4 w5 (s3.trans (s4.wk fun _ z => z.elim)) (o3.call s4) r4⟩
      | _ => exact absurd w wp_fail
    | _ => exact absurd w wp_fail
end
end Fm
set_option Elab.async false
set_option linter.all false
set_option maxRecDepth 100000
set_option maxHeartbeats 2000000
set_option autoImplicit false
namespace Fm
open PySem PySem.Spec PyProof.Rows L2
open Evl (Ex ex_l ex_t ex_rd)
open WPM
/-! ### written dicts with texts as keys -/
theorem mergeK_app : ∀ (more acc : List (Key × V)), (∀ p ∈ more, p.1 ∉ acc.map (·.1)) → (more.map (·.1)).Nodup → mergeK acc more = acc ++ more
  | [], acc, _, _ => by simp [mergeK]
  | p :: r, acc, h, nd => by
    have e : putK acc p.1 p.2 = acc ++ [p] := by
      refine putK_new _ ?_
      have := h p List.mem_cons_self
      unfold valV
      rw [List.find?_eq_none.mpr fun q hq => by
        intro z
        exact this (List.mem_map.mpr ⟨q, hq, by simpa using z⟩)]
      rfl
    show mergeK (putK acc p.1 p.2) r = acc ++ p :: r
    rw [List.map_cons, List.nodup_cons] at nd
    rw [e, mergeK_app r (acc ++ [p]) (fun q hq => ?_) nd.2, List.append_assoc]
    · rfl
    · rw [List.map_append, List.mem_append]
      rintro (z | z)
      · exact h q (List.mem_cons_of_mem _ hq) z
      · have : q.1 = p.1 := by simpa using z
        exact nd.1 (this ▸ List.mem_map.mpr ⟨q, hq, rfl⟩)
section
variable {M : Type → Type} [WPM M] {X : Cx} {bx : Bx} {a : Expr} {ma : En → M D} {mr : En → M (List D)} {pos p : Pos} {k0 : Nat}
structure KM (X : Cx) (bx : Bx) (pos : Pos) (keys : List (Option Expr)) (vals : List Expr) (ks : List Str) (ms : En → M (List D)) : Prop where
  ex : ∃ trs, PPs X pos keys vals trs ∧ ∀ {Hf0 H0 : Hp} {E : En} {σ : L2.St} {Hf H : Hp}, EnvOk X.K bx Hf0 H0 E σ Hf H → ∀ {P : List D → Prop}, wp (ms E) P →
    ∀ Q : List (V × V) → Hp → Prop, (∀ ds (kvs : List (Key × V)) Hf2 H2, P ds → Step (isB bx) Hf H Hf2 H2 → BoxOk bx Hf2 H2 → kvs.map (·.1) = ks.map Sum.inr → RpL X.K Hf2 ds (kvs.map (·.2)) → Q (kvs.map fun kv => (kV kv.1, kv.2)) H2) → tPairs trs σ H Q
theorem km_nil : KM X bx pos [] [] [] (aNil : En → M (List D)) := ⟨[], pps_nil, fun {Hf0 H0 E σ Hf H} I {P} w Q q => q [] [] Hf H (wp_pure w) (.refl I.st.i) I.box rfl .nil⟩
theorem km_cons {keys : List (Option Expr)} {vals : List Expr} {ks : List Str} {z : Str} (ha : PM X bx a ma) (hr : KM X bx pos keys vals ks mr) : KM X bx pos (some (.Constant (.str z) k0 p) :: keys) (a :: vals) (z :: ks) (aCons ma mr) := by
  obtain ⟨ta, a1, a2⟩ := ha.ex
  obtain ⟨trs, r1, r2⟩ := hr.ex
  refine ⟨_, pps_cons pe_str a1 r1, fun {Hf0 H0 E σ Hf H} I {P} w Q q => ?_⟩
  refine a2 I (wp_bind w) _ fun d v Hf2 H2 w2 s2 o2 z2 => ?_
  refine r2 (I.step s2 o2) (wp_bind w2) _ fun ds kvs Hf3 H3 w3 s3 o3 e3 z3 => ?_
  exact q (d :: ds) ((Sum.inr z, v) :: kvs) Hf3 H3 (wp_pure w3) (s2.trans s3) o3 (by simp [e3]) (.cons (z2.mono s3.f) z3)
def mDct (ks : List Str) (mr : En → M (List D)) : En → M D := fun E => mr E >>= fun ds => pure (.dct (ks.map Sum.inr) ds)
theorem pm_dct {keys : List (Option Expr)} {vals : List Expr} {ks : List Str} (h : KM X bx pos keys vals ks mr) (hall : keys.all (·.isSome) = true) (hl : keys.length = vals.length) (h0 : keys ≠ []) (h15 : keys.length ≤ 15) (hk : ks.length ≤ 15) (nd : ks.Nodup) : PM X bx (.Dict keys vals pos) (mDct ks mr) := by
  obtain ⟨trs, r1, r2⟩ := h.ex
  refine ⟨_, pe_disp r1 hall hl h0 h15, fun {Hf0 H0 E σ Hf H} I {P} w Q q => ?_⟩
  intro o ho
  have nb := I.nb ho
  have s1 := Step.add (B := isB bx) (o := .dK []) I.st.i ho
  refine r2 (I.step s1 (I.box.upd nb)) (wp_bind w) _ fun ds kvs Hf2 H2 w2 s2 o2 e2 z2 => ?_
  have hp : H2 o = some (.dK []) := s2.k o _ nb upd_same
  have hf : Hf2 o = none := s2.n o (Evl.fresh_back I.st.i ho) (by rw [upd_same]; simp)
  have hm : mergeK [] kvs = kvs := by
    have := mergeK_app kvs [] (fun p _ => by simp) (by rw [e2]; exact List.Pairwise.map _ (fun a b h z => h (Sum.inr.inj z)) nd)
    simpa using this
  have lk : kvs.length = ks.length := by simpa using congrArg List.length e2
  refine ⟨hp, kvs, rfl, by omega, ?_⟩
  rw [hm]
  refine q _ _ (upd Hf2 o (.dK kvs)) _ (wp_pure w2) (((s1.trans s2).put ho hf).frz ho hf upd_same) ((o2.upd nb).frz nb) ?_
  exact .dct upd_same e2 (z2.mono (Ex.new hf))
end
end Fm
set_option Elab.async false
set_option linter.all false
set_option maxRecDepth 100000
set_option maxHeartbeats 2000000
set_option autoImplicit false
namespace Fm
open PySem PySem.Spec PyProof.Rows L2
open Evl (Ex ex_l ex_t ex_rd)
open WPM
/-! ### all that may come -/
def Dm (α : Type) : Type := Option (List α)
def Dm.go {α β : Type} (f : α → Dm β) : List α → Option (List β)
  | [] => some []
  | a :: r => match f a with
    | none => none
    | some l => match Dm.go f r with
      | none => none
      | some m => some (l ++ m)
instance : Monad Dm where
  pure a := some [a]
  bind x f := match x with
    | none => none
    | some l => Dm.go f l
theorem Dm.go_of {α β : Type} {f : α → Dm β} : ∀ {l : List α} {m : List β}, Dm.go f l = some m → ∀ a ∈ l, ∃ r, f a = some r ∧ ∀ b ∈ r, b ∈ m
  | [], _, _, a, h => by cases h
  | x :: r, m, e, a, h => by
    unfold Dm.go at e
    cases e1 : f x with
    | none => rw [e1] at e; cases e
    | some l =>
      cases e2 : Dm.go f r with
      | none => rw [e1, e2] at e; cases e
      | some m2 =>
        rw [e1, e2] at e
        cases e
        rcases List.mem_cons.mp h with rfl | h
        · exact ⟨l, e1, fun b hb => List.mem_append_left _ hb⟩
        · obtain ⟨r2, e3, h3⟩ := Dm.go_of e2 a h
          exact ⟨r2, e3, fun b hb => List.mem_append_right _ (h3 b hb)⟩
instance : WPM Dm where
  wp x P := ∃ l : List _, x = some l ∧ ∀ a ∈ l, P a
  wp_pure := fun ⟨l, e, h⟩ => by cases e; exact h _ (List.mem_singleton.mpr rfl)
  wp_bind := fun {α β x f P} h => by
    obtain ⟨m, e, h⟩ := h
    cases x with
    | none => cases e
    | some l =>
      refine ⟨l, rfl, fun a ha => ?_⟩
      obtain ⟨r, e1, h1⟩ := Dm.go_of (show Dm.go f l = some m from e) a ha
      exact ⟨r, e1, fun b hb => h b (h1 b hb)⟩
  fail := none
  wp_fail := fun ⟨_, e, _⟩ => by cases e
def pick {α : Type} (l : List α) : Dm α := some l
theorem wp_pick {α : Type} {l : List α} {P : α → Prop} (h : wp (pick l : Dm α) P) : ∀ a ∈ l, P a := by
  obtain ⟨m, e, h⟩ := h
  cases e
  exact h
/-! ### equal slots -/
mutual
def D.eqv : D → D → Bool
  | .non, .non => true
  | .bl a, .bl b => a == b
  | .int a, .int b => decide (a = b)
  | .str a, .str b => decide (a = b)
  | .lst a, .lst b => D.eqvL a b
  | .tup a, .tup b => D.eqvL a b
  | .dct k a, .dct j b => decide (k = j) && D.eqvL a b
  | .fn a, .fn b => decide (a = b)
  | _, _ => false
def D.eqvL : List D → List D → Bool
  | [], [] => true
  | a :: x, b :: y => D.eqv a b && D.eqvL x y
  | _, _ => false
end
mutual
theorem D.eqv_of : ∀ (a b : D), D.eqv a b = true → a = b
  | .non, b, h => by cases b <;> first | rfl | (simp [D.eqv] at h)
  | .bl a, b, h => by cases b <;> simp [D.eqv] at h; rw [h]
  | .int a, b, h => by cases b <;> simp [D.eqv] at h; rw [h]
  | .str a, b, h => by cases b <;> simp [D.eqv] at h; rw [h]
  | .lst a, b, h => by cases b <;> simp [D.eqv] at h; rw [D.eqvL_of a _ h]
  | .tup a, b, h => by cases b <;> simp [D.eqv] at h; rw [D.eqvL_of a _ h]
  | .dct k a, b, h => by cases b <;> simp [D.eqv] at h; rw [h.1, D.eqvL_of a _ h.2]
  | .fn a, b, h => by cases b <;> simp [D.eqv] at h; rw [h]
theorem D.eqvL_of : ∀ (a b : List D), D.eqvL a b = true → a = b
  | [], b, h => by cases b <;> first | rfl | (simp [D.eqvL] at h)
  | a :: x, b, h => by
    cases b with
    | nil => simp [D.eqvL] at h
    | cons b y =>
      simp [D.eqvL] at h
      rw [D.eqv_of a b h.1, D.eqvL_of x y h.2]
end
def eqS : Sl → Sl → Bool
  | .un, .un => true
  | .sh a, .sh b => D.eqv a b
  | .bx, .bx => true
  | _, _ => false
def eqE : En → En → Bool
  | [], [] => true
  | a :: x, b :: y => eqS a b && eqE x y
  | _, _ => false
theorem eqE_of : ∀ {a b : En}, eqE a b = true → a = b
  | [], [], _ => rfl
  | [], _ :: _, h => by simp [eqE] at h
  | _ :: _, [], h => by simp [eqE] at h
  | a :: x, b :: y, h => by
    simp [eqE] at h
    have e : a = b := by
      have := h.1
      cases a <;> cases b <;> simp [eqS] at this <;> first | rfl | (rw [D.eqv_of _ _ this])
    rw [e, eqE_of h.2]
theorem EnvOk.forget1 {K : PySem.W.Frag} {bx : Bx} {Hf0 H0 Hf H : Hp} {E : En} {σ : L2.St} {i : Nat} (h : EnvOk K bx Hf0 H0 E σ Hf H) : EnvOk K bx Hf0 H0 (E.set i .un) σ Hf H := by
  have key : ∀ {j : Nat} {s : Sl}, (E.set i .un)[j]? = some s → s = .un ∨ E[j]? = some s := fun {j s} e => by
    by_cases q : i = j
    · subst q
      by_cases hi : i < E.length
      · rw [List.getElem?_set_self hi] at e; cases e; exact .inl rfl
      · rw [List.getElem?_eq_none (by simpa using hi)] at e; cases e
    · rw [List.getElem?_set_ne q] at e; exact .inr e
  refine ⟨h.st, h.box, h.b0, by rw [List.length_set]; exact h.len, fun j s e => ?_, fun j k s t p n e1 e2 o1 o2 v1 v2 => ?_⟩
  · rcases key e with rfl | e
    · trivial
    · exact h.sl j s e
  · rcases key e1 with rfl | e1
    · exact o1.elim
    · rcases key e2 with rfl | e2
      · exact o2.elim
      · exact h.dj j k s t p n e1 e2 o1 o2 v1 v2
theorem EnvOk.forget {K : PySem.W.Frag} {bx : Bx} {Hf0 H0 Hf H : Hp} {E : En} {σ : L2.St} (h : EnvOk K bx Hf0 H0 E σ Hf H) : ∀ vs : List Nat, EnvOk K bx Hf0 H0 (wipeE E vs) σ Hf H
  | [] => h
  | v :: vs => (h.forget vs).forget1
/-! ### for, each turn from and to the same slots -/
section
variable {X : Cx} {bx : Bx} {tg : Expr} {body : List Stmt} {ms : En → Dm Fl} {pos : Pos} {f : D → En → Option En} {js : List Nat}
def okEnd (ws : List Nat) (E0 : En) : Fl → Bool
  | .nx E' => eqE (wipeE E' ws) E0
  | _ => false
def okTurn (ws : List Nat) (f : D → En → Option En) (ms : En → Dm Fl) (E0 : En) (d : D) : Bool := match f d E0 with
  | none => false
  | some E2 => match ms E2 with
    | none => false
    | some l => l.all (okEnd ws E0)
def mForInv (ws : List Nat) (mi : En → Dm (List D)) (f : D → En → Option En) (ms : En → Dm Fl) : En → Dm Fl := fun E => mi E >>= fun ds => if ds.all (okTurn ws f ms (wipeE E ws)) then pure (.nx (wipeE E ws)) else fail
theorem sm_forInv (ws : List Nat) {iter : Expr} {mi : En → Dm (List D)} (hp : PassesOwn (model X.prog X.w) X.A X.env X.xe) (hc : X.calm = true) (hi : IM X bx tg iter mi) (hg : GM X bx tg f js) (hb : SsM X bx body ms)
    (hs : ∀ x, foldedSetIterable iter X.env x = pure x := by intro _; rfl) : SM X bx (.For tg iter body [] pos) (mForInv ws mi f ms) := by
  obtain ⟨wi, i1, i2⟩ := hi.ex
  obtain ⟨g, g1, g2⟩ := hg.ex
  obtain ⟨tb, b1, b2⟩ := hb.ex
  refine ⟨_, ps_for hp hc i1 g1 b1 hs, fun {Hf0 H0 E σ Hf H} I {P} w D q => ?_⟩
  refine i2 I (wp_bind w) _ fun ds J Hf1 H1 w1 s1 o1 it => ?_
  have I1 := (I.step s1 o1).forget ws
  split at w1
  case isFalse => exact absurd w1 wp_fail
  case isTrue hall =>
  refine for_it it (fun i σ H => ∃ Hf', Ex Hf1 Hf' ∧ EnvOk X.K bx Hf0 H0 (wipeE E ws) σ Hf' H) ⟨Hf1, Ex.refl _, I1⟩ (fun i σ H _ ⟨Hf', x, I'⟩ => ⟨Hf', x, I'.st.i⟩) (fun i x σ Ha Hb hin p y => ?_) (fun σ Hz ⟨Hf', x', I'⟩ => q.nx _ _ _ _ (wp_pure w1) (s1.f.trans x') I')
  obtain ⟨Hf', x', I'⟩ := p
  obtain ⟨Hf2, d, s2, bb, ed, r2⟩ := y Hf' x' I'.st.i
  have I2 := I'.step s2 (bb I'.box)
  have ok : okTurn ws f ms (wipeE E ws) d = true := List.all_eq_true.mp hall d (List.mem_of_getElem? ed)
  unfold okTurn at ok
  cases e2 : f d (wipeE E ws) with
  | none => rw [e2] at ok; cases ok
  | some E2 =>
    rw [e2] at ok
    dsimp only at ok
    cases e3 : ms E2 with
    | none => rw [e3] at ok; cases ok
    | some l =>
      rw [e3] at ok
      refine g2 I2 r2 e2 _ fun σ' I3 _ _ => ?_
      refine b2 I3 (P := fun fl => okEnd ws (wipeE E ws) fl = true) ⟨l, e3, fun a ha => List.all_eq_true.mp ok a ha⟩ _ ⟨fun E3 σ3 Hf3 H3 p x I => ?_, fun d v Hf H p s b r => (by cases p), fun E σ Hf H p x I => (by cases p), fun E σ Hf H p x I => (by cases p)⟩
      have e4 : wipeE E3 ws = wipeE E ws := eqE_of p
      exact ⟨Hf3, (x'.trans s2.f).trans x, by rw [← e4]; exact I.forget ws⟩
/-- the target plays no part -/
def mForSame (n : Nat) (ws : List Nat) (mi : En → Dm (List D)) (ms : En → Dm Fl) : En → Dm Fl := mForInv ws mi (fun _ E => if n ∈ ws then some E else none) ms
theorem sm_forSame (n : Nat) (ws : List Nat) {x : Str} {px : Pos} {iter : Expr} {mi : En → Dm (List D)} (hp : PassesOwn (model X.prog X.w) X.A X.env X.xe) (hc : X.calm = true) (hi : IM X bx (.Name x px) iter mi) (hN : X.N.Nodup) (hx1 : X.N[n]? = some x) (hx : Loc X.env.scope x) (hb : SsM X bx body ms)
    (hs : ∀ x, foldedSetIterable iter X.env x = pure x := by intro _; rfl) (hf : X.fn x = true ∨ X.env.scope.names.lookup x = some .local := by first | exact .inl rfl | exact .inr rfl | assumption) : SM X bx (.For (.Name x px) iter body [] pos) (mForSame n ws mi ms) := by
  obtain ⟨wi, i1, i2⟩ := hi.ex
  obtain ⟨tb, b1, b2⟩ := hb.ex
  refine ⟨_, ps_for hp hc i1 (pg_name hN hx1 hx hf) b1 hs, fun {Hf0 H0 E σ Hf H} I {P} w D q => ?_⟩
  refine i2 I (wp_bind w) _ fun ds J Hf1 H1 w1 s1 o1 it => ?_
  have I1 := (I.step s1 o1).forget ws
  replace w1 : wp (if ds.all (okTurn ws (fun _ E => if n ∈ ws then some E else none) ms (wipeE E ws)) then pure (.nx (wipeE E ws)) else fail : Dm Fl) P := w1
  by_cases hall : ds.all (okTurn ws (fun _ E => if n ∈ ws then some E else none) ms (wipeE E ws)) = true
  case neg => rw [if_neg hall] at w1; exact absurd w1 wp_fail
  rw [if_pos hall] at w1
  refine for_it it (fun i σ H => ∃ Hf', Ex Hf1 Hf' ∧ EnvOk X.K bx Hf0 H0 (wipeE E ws) σ Hf' H) ⟨Hf1, Ex.refl _, I1⟩ (fun i σ H _ ⟨Hf', x, I'⟩ => ⟨Hf', x, I'.st.i⟩) (fun i x σ Ha Hb hin p y => ?_) (fun σ Hz ⟨Hf', x', I'⟩ => q.nx _ _ _ _ (wp_pure w1) (s1.f.trans x') I')
  obtain ⟨Hf', x', I'⟩ := p
  obtain ⟨Hf2, d, s2, bb, ed, r2⟩ := y Hf' x' I'.st.i
  have I2 := I'.step s2 (bb I'.box)
  have ok : okTurn ws (fun _ E => if n ∈ ws then some E else none) ms (wipeE E ws) d = true := List.all_eq_true.mp hall d (List.mem_of_getElem? ed)
  unfold okTurn at ok
  dsimp only at ok
  by_cases hn : n ∈ ws
  case neg => rw [if_neg hn] at ok; cases ok
  rw [if_pos hn] at ok
  dsimp only at ok
  cases e3 : ms (wipeE E ws) with
  | none => rw [e3] at ok; cases ok
  | some l =>
    rw [e3] at ok
    have hz : ∀ (vs : List Nat) (E : En), n ∈ vs → (wipeE E vs).set n .un = wipeE E vs := by
      intro vs
      induction vs with
      | nil => intro E h; cases h
      | cons v vs ih =>
        intro E h
        unfold wipeE
        by_cases z : v = n
        · subst z; rw [List.set_set]
        · rcases List.mem_cons.mp h with h | h
          · exact absurd h.symm z
          · rw [List.set_comm _ _ z, ih E h]
    have I3 : EnvOk X.K bx Hf0 H0 (wipeE E ws) (σ.set n (some x)) Hf2 Hb := by
      have := I2.wipe1 (i := n) (o := some x)
      rwa [hz ws E hn] at this
    refine b2 I3 (P := fun fl => okEnd ws (wipeE E ws) fl = true) ⟨l, e3, fun a ha => List.all_eq_true.mp ok a ha⟩ _ ⟨fun E3 σ3 Hf3 H3 p x I => ?_, fun d v Hf H p s b r => (by cases p), fun E σ Hf H p x I => (by cases p), fun E σ Hf H p x I => (by cases p)⟩
    have e4 : wipeE E3 ws = wipeE E ws := eqE_of p
    exact ⟨Hf3, (x'.trans s2.f).trans x, by rw [← e4]; exact I.forget ws⟩
end
end Fm
set_option Elab.async false
set_option linter.all false
set_option maxRecDepth 100000
set_option maxHeartbeats 2000000
set_option autoImplicit false
namespace K70
open PySem PySem.Spec PyProof.Rows L2 Fm
def top (i : Nat) : Stmt := PySem.Challenge.pw_treesheld_k70_whole_claims.main.body.getD i (.Pass ⟨0, 0, 0, 0⟩)
def d_SMALL : D := .str "abcdefghijklmnopqrstuvwxyz"
def d_DIGITS : D := .str "0123456789"
def d_SIGNS : D := .str "abcdefghijklmnopqrstuvwxyz0123456789-"
def d_DEGREES : D := .tup [.str "serial", .str "snapshot"]
def d_KINDS : D := .tup [.str "done", .str "undone"]
def d_MOST_KEY : D := .int 12
def d_MOST_VALUE : D := .int 200
def d_MOST_MANY : D := .int 200
def d_MOST_FRAMES : D := .int 1000
def d_MOST_JUDGED : D := .int 7
def d_GREATEST_TIME : D := .int 1000000000
def d_MOST_COURSE : D := .int 120
def d_GREATEST_PAGE_NUMBER : D := .int 1000000000
structure Gs (K : PySem.W.Frag) (mg : Str → Option Value) : Prop where
  c_SIGNS : GlobOk K mg "SIGNS" d_SIGNS
  c_DEGREES : GlobOk K mg "DEGREES" d_DEGREES
  c_KINDS : GlobOk K mg "KINDS" d_KINDS
  c_MOST_KEY : GlobOk K mg "MOST_KEY" d_MOST_KEY
  c_MOST_VALUE : GlobOk K mg "MOST_VALUE" d_MOST_VALUE
  c_MOST_MANY : GlobOk K mg "MOST_MANY" d_MOST_MANY
  c_MOST_FRAMES : GlobOk K mg "MOST_FRAMES" d_MOST_FRAMES
  c_MOST_JUDGED : GlobOk K mg "MOST_JUDGED" d_MOST_JUDGED
  c_GREATEST_TIME : GlobOk K mg "GREATEST_TIME" d_GREATEST_TIME
  c_MOST_COURSE : GlobOk K mg "MOST_COURSE" d_MOST_COURSE
  c_GREATEST_PAGE_NUMBER : GlobOk K mg "GREATEST_PAGE_NUMBER" d_GREATEST_PAGE_NUMBER
  b_len : mg "len" = none
  b_isinstance : mg "isinstance" = none
  b_int : mg "int" = none
  b_bool : mg "bool" = none
  b_str : mg "str" = none
  b_tuple : mg "tuple" = none
  b_list : mg "list" = none
  b_all : mg "all" = none
  b_any : mg "any" = none
  b_sum : mg "sum" = none
  b_range : mg "range" = none
  b_zip : mg "zip" = none
  b_enumerate : mg "enumerate" = none
  b_set : mg "set" = none
  b_sorted : mg "sorted" = none
  d_is_whole : DefAt K mg "is_whole" (top 5)
  d_is_number : DefAt K mg "is_number" (top 6)
  d_is_ascending : DefAt K mg "is_ascending" (top 7)
  d_are_signs : DefAt K mg "are_signs" (top 13)
  d_is_key : DefAt K mg "is_key" (top 14)
  d_is_stored : DefAt K mg "is_stored" (top 15)
  d_is_read : DefAt K mg "is_read" (top 25)
  d_is_write : DefAt K mg "is_write" (top 26)
  d_keys_changed : DefAt K mg "keys_changed" (top 28)
  d_value_in : DefAt K mg "value_in" (top 30)
  d_with_value : DefAt K mg "with_value" (top 31)
  d_read_answer : DefAt K mg "read_answer" (top 34)
  d_plain_answers : DefAt K mg "plain_answers" (top 36)
  d_same_answers : DefAt K mg "same_answers" (top 37)
  d_is_told_answer : DefAt K mg "is_told_answer" (top 43)
  d_are_inner : DefAt K mg "are_inner" (top 44)
  d_is_history_row : DefAt K mg "is_history_row" (top 45)
  d_is_history : DefAt K mg "is_history" (top 46)
  d_rows_by_order : DefAt K mg "rows_by_order" (top 47)
  d_fits_serial : DefAt K mg "fits_serial" (top 48)
  d_can_follow : DefAt K mg "can_follow" (top 51)
  d_followers : DefAt K mg "followers" (top 52)
  d_is_some_order : DefAt K mg "is_some_order" (top 53)
  d_is_explaining : DefAt K mg "is_explaining" (top 54)
  d_is_history_paper : DefAt K mg "is_history_paper" (top 55)
  d_is_course : DefAt K mg "is_course" (top 59)
  d_spans_of : DefAt K mg "spans_of" (top 60)
  d_bare_spans : DefAt K mg "bare_spans" (top 61)
  d_most_hits : DefAt K mg "most_hits" (top 62)
  d_is_course_paper : DefAt K mg "is_course_paper" (top 63)
  d_is_judged : DefAt K mg "is_judged" (top 65)
  d_is_framed : DefAt K mg "is_framed" (top 66)
  d_is_told_reads : DefAt K mg "is_told_reads" (top 67)
  d_has_word : DefAt K mg "has_word" (top 70)
  d_is_claim : DefAt K mg "is_claim" (top 71)
  d_is_question : DefAt K mg "is_question" (top 72)
  d_reads_with : DefAt K mg "reads_with" (top 74)
  d_are_pages_out : DefAt K mg "are_pages_out" (top 75)
  d_proves_reads : DefAt K mg "proves_reads" (top 76)
  d_proves : DefAt K mg "proves" (top 77)
  d__law_box : DefAt K mg "_law_box" (top 79)
  d__law_load : DefAt K mg "_law_load" (top 80)
  d__law_draw : DefAt K mg "_law_draw" (top 81)
  d__law_same : DefAt K mg "_law_same" (top 82)
  d__law_history : DefAt K mg "_law_history" (top 83)
  d__law_odd : DefAt K mg "_law_odd" (top 84)
  d__law_kinds : DefAt K mg "_law_kinds" (top 85)
  d__law_good : DefAt K mg "_law_good" (top 86)
  d__law_bad : DefAt K mg "_law_bad" (top 87)
  d__law_rows : DefAt K mg "_law_rows" (top 88)
  d_law : DefAt K mg "law" (top 89)
section
variable {P : Program} {w : World} {K : PySem.W.Frag} {mg : Str → Option Value} {base : Heap}

/-! ### is_whole -/
abbrev s_is_whole : Stmt := top 5
theorem sc_is_whole : FnScope ["value"] ["value"] (defScope s_is_whole) := ⟨rfl, rfl, rfl, by decide +kernel, rfl, by decide +kernel, by decide +kernel⟩
def b_is_whole : En → Option Fl := mRet (mAndV (mIsi .tInt (mVarB 0)) (mNotV (mIsi .tBool (mVarB 0))))
def f_is_whole : List D → Option D := mfOf 1 b_is_whole
theorem d_is_whole (G : Gs K mg)  : Df P w K mg base 1 "is_whole" 1 f_is_whole := by
    have S := sc_is_whole
    exact df_mk G.d_is_whole sc_is_whole rfl (fun _ _ _ _ _ _ us hl => match us, hl with | [_], _ => rfl) fun f cdv A outer s H E hr => ssm_one (sm_ret (pm_and (pm_isi .tInt (by rfl) G.b_isinstance (by decide +kernel) (by rfl) G.b_int (by decide +kernel) (bm_var 0 (pv 0))) (pm_one (pm_not (PM.toB (pm_isi .tBool (by rfl) G.b_isinstance (by decide +kernel) (by rfl) G.b_bool (by decide +kernel) (bm_var 0 (pv 0))))))))
/-! ### is_number -/
abbrev s_is_number : Stmt := top 6
theorem sc_is_number : FnScope ["value", "least", "most"] ["value", "least", "most"] (defScope s_is_number) := ⟨rfl, rfl, rfl, by decide +kernel, rfl, by decide +kernel, by decide +kernel⟩
def b_is_number : En → Option Fl := mRet (mAndV (mIsi .tInt (mVarB 0)) (mAndV (mNotV (mIsi .tBool (mVarB 0))) (mChain pLe pLe (mVarB 1) (mVarB 0) (mVarB 2))))
def f_is_number : List D → Option D := mfOf 3 b_is_number
theorem d_is_number (G : Gs K mg)  : Df P w K mg base 1 "is_number" 3 f_is_number := by
    have S := sc_is_number
    exact df_mk G.d_is_number sc_is_number rfl (fun _ _ _ _ _ _ us hl => match us, hl with | [_, _, _], _ => rfl) fun f cdv A outer s H E hr => ssm_one (sm_ret (pm_and (pm_isi .tInt (by rfl) G.b_isinstance (by decide +kernel) (by rfl) G.b_int (by decide +kernel) (bm_var 0 (pv 0))) (pm_and (pm_not (PM.toB (pm_isi .tBool (by rfl) G.b_isinstance (by decide +kernel) (by rfl) G.b_bool (by decide +kernel) (bm_var 0 (pv 0))))) (pm_one (pm_chain op_le op_le rv_le rv_le (bm_var 1 (pv 1)) (bm_var 0 (pv 0)) (bm_var 2 (pv 2)))))))
/-! ### is_ascending -/
abbrev s_is_ascending : Stmt := top 7
theorem sc_is_ascending : FnScope ["rows", "k"] ["rows"] (defScope s_is_ascending) := ⟨rfl, rfl, rfl, by decide +kernel, rfl, by decide +kernel, by decide +kernel⟩
def b_is_ascending : En → Option Fl := mRet (mCallB fAll (aCons (mComp (mRng rng1 (aCons (mOp pSub (mCallB fLen (aCons (mVarB 0) (aNil))) (mC (.int 1))) (aNil))) [1] (fName 1) (fun _ => pure true) (mOp pLt (mOp pIx (mVarB 0) (mVarB 1)) (mOp pIx (mVarB 0) (mOp pAdd (mVarB 1) (mC (.int 1)))))) (aNil)))
def f_is_ascending : List D → Option D := mfOf 2 b_is_ascending
theorem d_is_ascending (G : Gs K mg)  : Df P w K mg base 1 "is_ascending" 1 f_is_ascending := by
    have S := sc_is_ascending
    exact df_mk G.d_is_ascending sc_is_ascending rfl (fun _ _ _ _ _ _ us hl => match us, hl with | [_], _ => rfl) fun f cdv A outer s H E hr => ssm_one (sm_ret (pm_callB (cr_all rfl) rc_all (by rfl) G.b_all (by decide +kernel) (am_cons (PM.toB (pm_comp (own := [("k", 1)]) rfl S.nd (im_range1 (by rfl) G.b_range (am_cons (PM.toB (pm_op op_sub rv_sub (PM.toB (pm_callB (call_lenU) rc_len (by rfl) G.b_len (by decide +kernel) (am_cons (bm_var 0 (pv 0)) (am_nil)))) (PM.toB (pm_int)))) (am_nil))) (blkOk_by (own := [("k", 1)]) (N := ["rows", "k"]) (sc := defScope s_is_ascending) (by decide +kernel)) (fun _ _ _ _ _ => gm_name 1 S.nd rfl (by first | exact Or.inl rfl | exact Or.inr rfl)) (fun _ _ _ _ _ => ts_nil) (fun _ _ _ _ _ => pm_cmp (op_ltU (u0_of hr)) rv_lt (PM.toB (pm_ix ix_seq rv_ix (bm_var 0 (pv 0)) (bm_var 1 (pv 1)) (fun _ _ => rfl))) (PM.toB (pm_ix ix_seq rv_ix (bm_var 0 (pv 0)) (PM.toB (pm_op op_addU rv_add (bm_var 1 (pv 1)) (PM.toB (pm_int)))) (fun _ _ => rfl))) (by first | exact nobehind _ (by decide) (by decide) | rfl)) (by decide))) (am_nil))))
/-! ### are_signs -/
abbrev s_are_signs : Stmt := top 13
theorem sc_are_signs : FnScope ["value", "sign"] ["value"] (defScope s_are_signs) := ⟨rfl, rfl, rfl, by decide +kernel, rfl, by decide +kernel, by decide +kernel⟩
def b_are_signs : En → Option Fl := mRet (mAndV (mIsi .tStr (mVarB 0)) (mCallB fAll (aCons (mComp (mItems (mVar 0)) [1] (fName 1) (fun _ => pure true) (mOp (pIn false) (mVarB 1) (mC d_SIGNS))) (aNil))))
def f_are_signs : List D → Option D := mfOf 2 b_are_signs
theorem d_are_signs (G : Gs K mg)  : Df P w K mg base 1 "are_signs" 1 f_are_signs := by
    have S := sc_are_signs
    exact df_mk G.d_are_signs sc_are_signs rfl (fun _ _ _ _ _ _ us hl => match us, hl with | [_], _ => rfl) fun f cdv A outer s H E hr => ssm_one (sm_ret (pm_and (pm_isi .tStr (by rfl) G.b_isinstance (by decide +kernel) (by rfl) G.b_str (by decide +kernel) (bm_var 0 (pv 0))) (pm_one (pm_callB (cr_all rfl) rc_all (by rfl) G.b_all (by decide +kernel) (am_cons (PM.toB (pm_comp (own := [("sign", 1)]) rfl S.nd (im_seq (pm_var 0 (pv 0))) (blkOk_by (own := [("sign", 1)]) (N := ["value", "sign"]) (sc := defScope s_are_signs) (by decide +kernel)) (fun _ _ _ _ _ => gm_name 1 S.nd rfl (by first | exact Or.inl rfl | exact Or.inr rfl)) (fun _ _ _ _ _ => ts_nil) (fun _ _ _ _ _ => pm_cmp (op_inU (u65_of hr)) rv_in (bm_var 1 (pv 1)) (PM.toB (pm_g G.c_SIGNS (by rfl))) (by first | exact nobehind _ (by decide) (by decide) | rfl)) (by decide))) (am_nil))))))
/-! ### is_key -/
abbrev s_is_key : Stmt := top 14
theorem sc_is_key : FnScope ["value"] ["value"] (defScope s_is_key) := ⟨rfl, rfl, rfl, by decide +kernel, rfl, by decide +kernel, by decide +kernel⟩
def b_is_key : En → Option Fl := mRet (mAndV (mCall 1 f_are_signs (cCons (mVar 0) (cNil))) (mChain pLe pLe (mC (.int 1)) (mCallB fLen (aCons (mVarB 0) (aNil))) (mC d_MOST_KEY)))
def f_is_key : List D → Option D := mfOf 1 b_is_key
theorem d_is_key (G : Gs K mg) (F_are_signs : Df P w K mg base 1 "are_signs" 1 f_are_signs) : Df P w K mg base 2 "is_key" 1 f_is_key := by
    have S := sc_is_key
    exact df_mk G.d_is_key sc_is_key rfl (fun _ _ _ _ _ _ us hl => match us, hl with | [_], _ => rfl) fun f cdv A outer s H E hr => ssm_one (sm_ret (pm_and (pm_call F_are_signs hr (by rfl) (cm_cons (pm_var 0 (pv 0)) (cm_nil))) (pm_one (pm_chain op_le op_le rv_le rv_le (PM.toB (pm_int)) (PM.toB (pm_callB (call_lenU) rc_len (by rfl) G.b_len (by decide +kernel) (am_cons (bm_var 0 (pv 0)) (am_nil)))) (PM.toB (pm_g G.c_MOST_KEY (by rfl)))))))
/-! ### is_stored -/
abbrev s_is_stored : Stmt := top 15
theorem sc_is_stored : FnScope ["value"] ["value"] (defScope s_is_stored) := ⟨rfl, rfl, rfl, by decide +kernel, rfl, by decide +kernel, by decide +kernel⟩
def b_is_stored : En → Option Fl := mRet (mAndV (mCall 1 f_are_signs (cCons (mVar 0) (cNil))) (mOp pLe (mCallB fLen (aCons (mVarB 0) (aNil))) (mC d_MOST_VALUE)))
def f_is_stored : List D → Option D := mfOf 1 b_is_stored
theorem d_is_stored (G : Gs K mg) (F_are_signs : Df P w K mg base 1 "are_signs" 1 f_are_signs) : Df P w K mg base 2 "is_stored" 1 f_is_stored := by
    have S := sc_is_stored
    exact df_mk G.d_is_stored sc_is_stored rfl (fun _ _ _ _ _ _ us hl => match us, hl with | [_], _ => rfl) fun f cdv A outer s H E hr => ssm_one (sm_ret (pm_and (pm_call F_are_signs hr (by rfl) (cm_cons (pm_var 0 (pv 0)) (cm_nil))) (pm_one (pm_cmp op_le rv_le (PM.toB (pm_callB (call_lenU) rc_len (by rfl) G.b_len (by decide +kernel) (am_cons (bm_var 0 (pv 0)) (am_nil)))) (PM.toB (pm_g G.c_MOST_VALUE (by rfl))) (by first | exact nobehind _ (by decide) (by decide) | rfl)))))
/-! ### is_read -/
abbrev s_is_read : Stmt := top 25
theorem sc_is_read : FnScope ["value", "word", "parts"] ["value"] (defScope s_is_read) := ⟨rfl, rfl, rfl, by decide +kernel, rfl, by decide +kernel, by decide +kernel⟩
def b_is_read : En → Option Fl := mSeq (mPar 1 2 (nSh (mOp pIx (mVarB 0) (mC (.int 0)))) (nSh (mSl (mVarB 0) (mPart (mC (.int 1))) (mNoPart)))) (mSeq (mIfS (mTest (mOp (pEqv false) (mVarB 1) (mC (.str "get")))) (mRet (mAndV (mOp (pEqv false) (mCallB fLen (aCons (mVarB 2) (aNil))) (mC (.int 1))) (mCall 1 f_is_key (cCons (mOp pIx (mVarB 2) (mC (.int 0))) (cNil))))) (mNx)) (mSeq (mIfS (mTest (mOp (pEqv false) (mVarB 1) (mC (.str "count")))) (mRet (mAndV (mOp (pEqv false) (mCallB fLen (aCons (mVarB 2) (aNil))) (mC (.int 2))) (mAndV (mNo) (mNo)))) (mNx)) (mSeq (mIfS (mOr (mTest (mOp (pEqv true) (mVarB 1) (mC (.str "walk")))) (mOr (mTest (mOp (pEqv true) (mCallB fLen (aCons (mVarB 2) (aNil))) (mC (.int 4)))) (mOr (mNot (mNo)) (mNot (mNo))))) (mRet (mC (.bl false))) (mNx)) (mRet (mAndV (mCall 3 f_is_number (cCons (mOp pIx (mVarB 2) (mC (.int 2))) (cCons (mC (.int 1)) (cCons (mC d_MOST_MANY) (cNil))))) (mIsi .tBool (mOp pIx (mVarB 2) (mC (.int 3)))))))))
def f_is_read : List D → Option D := mfOf 3 b_is_read
theorem d_is_read (G : Gs K mg) (F_is_key : Df P w K mg base 2 "is_key" 1 f_is_key) (F_is_number : Df P w K mg base 1 "is_number" 3 f_is_number) : Df P w K mg base 3 "is_read" 1 f_is_read := by
    have S := sc_is_read
    have F_is_number := F_is_number.mono (show 1 ≤ 2 by decide)
    exact df_mk G.d_is_read sc_is_read rfl (fun _ _ _ _ _ _ us hl => match us, hl with | [_], _ => rfl) fun f cdv A outer s H E hr => ssm_cons (sm_par 1 2 rfl S.nd rfl rfl (by decide) rfl rfl (nm_sh (pm_ix ix_seq rv_ix (bm_var 0 (pv 0)) (PM.toB (pm_int)) (fun _ _ => rfl))) (nm_sh (pm_sl (sl_list.or (sl_tupA.or sl_str)) (bm_var 0 (pv 0)) (om_some (pm_int)) (om_none))) rfl) (ssm_cons (sm_if (tm_cmp (op_eqD (u64_of hr)) rv_eq (bm_var 1 (pv 1)) (PM.toB (pm_str)) (by first | exact nobehind _ (by decide) (by decide) | rfl)) (ssm_one (sm_ret (pm_and (pm_cmp (op_eqD (u64_of hr)) rv_eq (PM.toB (pm_callB (call_lenU) rc_len (by rfl) G.b_len (by decide +kernel) (am_cons (bm_var 2 (pv 2)) (am_nil)))) (PM.toB (pm_int)) (by first | exact nobehind _ (by decide) (by decide) | rfl)) (pm_one (pm_call F_is_key hr (by rfl) (cm_cons (pm_ix ix_seq rv_ix (bm_var 2 (pv 2)) (PM.toB (pm_int)) (fun _ _ => rfl)) (cm_nil))))))) (ssm_nil)) (ssm_cons (sm_if (tm_cmp (op_eqD (u64_of hr)) rv_eq (bm_var 1 (pv 1)) (PM.toB (pm_str)) (by first | exact nobehind _ (by decide) (by decide) | rfl)) (ssm_one (sm_ret (pm_and (pm_cmp (op_eqD (u64_of hr)) rv_eq (PM.toB (pm_callB (call_lenU) rc_len (by rfl) G.b_len (by decide +kernel) (am_cons (bm_var 2 (pv 2)) (am_nil)))) (PM.toB (pm_int)) (by first | exact nobehind _ (by decide) (by decide) | rfl)) (pm_and (pm_no) (pm_one (pm_no)))))) (ssm_nil)) (ssm_cons (sm_if (WM.toT (wm_or (tm_cmp (op_neD (u64_of hr)) rv_ne (bm_var 1 (pv 1)) (PM.toB (pm_str)) (by first | exact nobehind _ (by decide) (by decide) | rfl)) (wm_or (tm_cmp (op_neD (u64_of hr)) rv_ne (PM.toB (pm_callB (call_lenU) rc_len (by rfl) G.b_len (by decide +kernel) (am_cons (bm_var 2 (pv 2)) (am_nil)))) (PM.toB (pm_int)) (by first | exact nobehind _ (by decide) (by decide) | rfl)) (wm_or (tm_not (tm_no)) (wm_or1 (tm_not (tm_no))))))) (ssm_one (sm_ret (pm_bl))) (ssm_nil)) (ssm_one (sm_ret (pm_and (pm_call F_is_number hr (by rfl) (cm_cons (pm_ix ix_seq rv_ix (bm_var 2 (pv 2)) (PM.toB (pm_int)) (fun _ _ => rfl)) (cm_cons (pm_int) (cm_cons (pm_g G.c_MOST_MANY (by rfl)) (cm_nil))))) (pm_one (pm_isi .tBool (by rfl) G.b_isinstance (by decide +kernel) (by rfl) G.b_bool (by decide +kernel) (PM.toB (pm_ix ix_seq rv_ix (bm_var 2 (pv 2)) (PM.toB (pm_int)) (fun _ _ => rfl)))))))))))
/-! ### is_write -/
abbrev s_is_write : Stmt := top 26
theorem sc_is_write : FnScope ["value"] ["value"] (defScope s_is_write) := ⟨rfl, rfl, rfl, by decide +kernel, rfl, by decide +kernel, by decide +kernel⟩
def b_is_write : En → Option Fl := mSeq (mIfS (mTest (mOp (pEqv false) (mOp pIx (mVarB 0) (mC (.int 0))) (mC (.str "put")))) (mRet (mAndV (mOp (pEqv false) (mCallB fLen (aCons (mVarB 0) (aNil))) (mC (.int 3))) (mAndV (mCall 1 f_is_key (cCons (mOp pIx (mVarB 0) (mC (.int 1))) (cNil))) (mCall 1 f_is_stored (cCons (mOp pIx (mVarB 0) (mC (.int 2))) (cNil)))))) (mNx)) (mRet (mAndV (mOp (pEqv false) (mOp pIx (mVarB 0) (mC (.int 0))) (mC (.str "cut"))) (mAndV (mOp (pEqv false) (mCallB fLen (aCons (mVarB 0) (aNil))) (mC (.int 2))) (mCall 1 f_is_key (cCons (mOp pIx (mVarB 0) (mC (.int 1))) (cNil))))))
def f_is_write : List D → Option D := mfOf 1 b_is_write
theorem d_is_write (G : Gs K mg) (F_is_key : Df P w K mg base 2 "is_key" 1 f_is_key) (F_is_stored : Df P w K mg base 2 "is_stored" 1 f_is_stored) : Df P w K mg base 3 "is_write" 1 f_is_write := by
    have S := sc_is_write
    exact df_mk G.d_is_write sc_is_write rfl (fun _ _ _ _ _ _ us hl => match us, hl with | [_], _ => rfl) fun f cdv A outer s H E hr => ssm_cons (sm_if (tm_cmp (op_eqD (u64_of hr)) rv_eq (PM.toB (pm_ix ix_seq rv_ix (bm_var 0 (pv 0)) (PM.toB (pm_int)) (fun _ _ => rfl))) (PM.toB (pm_str)) (by first | exact nobehind _ (by decide) (by decide) | rfl)) (ssm_one (sm_ret (pm_and (pm_cmp (op_eqD (u64_of hr)) rv_eq (PM.toB (pm_callB (call_lenU) rc_len (by rfl) G.b_len (by decide +kernel) (am_cons (bm_var 0 (pv 0)) (am_nil)))) (PM.toB (pm_int)) (by first | exact nobehind _ (by decide) (by decide) | rfl)) (pm_and (pm_call F_is_key hr (by rfl) (cm_cons (pm_ix ix_seq rv_ix (bm_var 0 (pv 0)) (PM.toB (pm_int)) (fun _ _ => rfl)) (cm_nil))) (pm_one (pm_call F_is_stored hr (by rfl) (cm_cons (pm_ix ix_seq rv_ix (bm_var 0 (pv 0)) (PM.toB (pm_int)) (fun _ _ => rfl)) (cm_nil)))))))) (ssm_nil)) (ssm_one (sm_ret (pm_and (pm_cmp (op_eqD (u64_of hr)) rv_eq (PM.toB (pm_ix ix_seq rv_ix (bm_var 0 (pv 0)) (PM.toB (pm_int)) (fun _ _ => rfl))) (PM.toB (pm_str)) (by first | exact nobehind _ (by decide) (by decide) | rfl)) (pm_and (pm_cmp (op_eqD (u64_of hr)) rv_eq (PM.toB (pm_callB (call_lenU) rc_len (by rfl) G.b_len (by decide +kernel) (am_cons (bm_var 0 (pv 0)) (am_nil)))) (PM.toB (pm_int)) (by first | exact nobehind _ (by decide) (by decide) | rfl)) (pm_one (pm_call F_is_key hr (by rfl) (cm_cons (pm_ix ix_seq rv_ix (bm_var 0 (pv 0)) (PM.toB (pm_int)) (fun _ _ => rfl)) (cm_nil))))))))
/-! ### value_in -/
abbrev s_value_in : Stmt := top 30
theorem sc_value_in : FnScope ["rows", "key", "found", "one", "value"] ["rows", "key"] (defScope s_value_in) := ⟨rfl, rfl, rfl, by decide +kernel, rfl, by decide +kernel, by decide +kernel⟩
def b_value_in : En → Option Fl := mSeq (mAsg (mComp (mItems (mVar 0)) [3, 4] (fTup 2 (fsCons (fName 3) (fsCons (fName 4) (fsNil)))) (mTest (mOp (pEqv false) (mVarB 3) (mVarB 1))) (mVar 4)) (fName 2)) (mRet (mIf (mTru (mVarB 2)) (mOp pIx (mVarB 2) (mC (.int 0))) (mC .non)))
def f_value_in : List D → Option D := mfOf 5 b_value_in
theorem d_value_in (G : Gs K mg)  : Df P w K mg base 1 "value_in" 2 f_value_in := by
    have S := sc_value_in
    exact df_mk G.d_value_in sc_value_in rfl (fun _ _ _ _ _ _ us hl => match us, hl with | [_, _], _ => rfl) fun f cdv A outer s H E hr => ssm_cons (sm_setLc 2 (own := [("one", 3), ("value", 4)]) rfl S.nd rfl rfl (sw_true rfl rfl (by rfl) (by rfl)) (im_seq (pm_var 0 (pv 0))) (blkOk_by (own := [("one", 3), ("value", 4)]) (N := ["rows", "key", "found", "one", "value"]) (sc := defScope s_value_in) (by decide +kernel)) (fun _ _ _ _ _ => gm_tup rfl (gsm_cons (gm_name 3 S.nd rfl (by first | exact Or.inl rfl | exact Or.inr rfl)) (gsm_cons (gm_name 4 S.nd rfl (by first | exact Or.inl rfl | exact Or.inr rfl)) (gsm_nil)))) (fun _ _ _ _ _ => ts_one (tm_cmp (op_eqD (u64_of hr)) rv_eq (bm_var 3 (pv 3)) (bm_var 1 (pv 1)) (by first | exact nobehind _ (by decide) (by decide) | rfl))) (fun _ _ _ _ _ => pm_var 4 (pv 4)) (by decide)) (ssm_one (sm_ret (pm_if (tm_tru (bm_var 2 (pv 2)) (fun _ => rfl)) (pm_ix ix_seq rv_ix (bm_var 2 (pv 2)) (PM.toB (pm_int)) (fun _ _ => rfl)) (pm_non))))
/-! ### with_value -/
abbrev s_with_value : Stmt := top 31
theorem sc_with_value : FnScope ["rows", "key", "value", "kept", "row"] ["rows", "key", "value"] (defScope s_with_value) := ⟨rfl, rfl, rfl, by decide +kernel, rfl, by decide +kernel, by decide +kernel⟩
def b_with_value : En → Option Fl := mSeq (mSetN 3 (nComp (mItems (mVar 0)) [4] (fName 4) (mTest (mOp (pEqv true) (mOp pIx (mVarB 4) (mC (.int 0))) (mVarB 1))) (mVar 4))) (mSeq (mIfS (mTest (mOp pIs2 (mVarB 2) (mC .non))) (mApp 3 (mTup (cCons (mVar 1) (cCons (mVar 2) (cNil))))) (mNx)) (mFrz 3 (mRet (mCallB fTuple (aCons (mCallB fSort2 (aCons (mVarB 3) (aNil))) (aNil))))))
def f_with_value : List D → Option D := mfOf 5 b_with_value
theorem d_with_value (G : Gs K mg)  : Df P w K mg base 1 "with_value" 3 f_with_value := by
    have S := sc_with_value
    exact df_mk G.d_with_value sc_with_value rfl (fun _ _ _ _ _ _ us hl => match us, hl with | [_, _, _], _ => rfl) fun f cdv A outer s H E hr => ssm_cons (sm_setLcN 3 (own := [("row", 4)]) rfl S.nd rfl rfl (sw_true rfl rfl (by rfl) (by rfl)) (im_seq (pm_var 0 (pv 0))) (blkOk_by (own := [("row", 4)]) (N := ["rows", "key", "value", "kept", "row"]) (sc := defScope s_with_value) (by decide +kernel)) (fun _ _ _ _ _ => gm_name 4 S.nd rfl (by first | exact Or.inl rfl | exact Or.inr rfl)) (fun _ _ _ _ _ => ts_one (tm_cmp (op_neD (u64_of hr)) rv_ne (PM.toB (pm_ix ix_seq rv_ix (bm_var 4 (pv 4)) (PM.toB (pm_int)) (fun _ _ => rfl))) (bm_var 1 (pv 1)) (by first | exact nobehind _ (by decide) (by decide) | rfl))) (fun _ _ _ _ _ => pm_var 4 (pv 4)) (by decide)) (ssm_cons (sm_if (tm_cmp op_notW rv_notw (bm_var 2 (pv 2)) (PM.toB (pm_non)) (by first | exact nobehind _ (by decide) (by decide) | rfl)) (ssm_one (sm_app 3 (pv 3) (pm_tup (cm_cons (pm_var 1 (pv 1)) (cm_cons (pm_var 2 (pv 2)) (cm_nil)))))) (ssm_nil)) (ssm_one (sm_frz 3 (sm_ret (pm_callTy (call_tuple_of) rc_tuple (by rfl) G.b_tuple (by decide +kernel) (am_cons (PM.toB (pm_callB cr_sort2 rc_sort2 (by rfl) G.b_sorted (by decide +kernel) (am_cons (bm_var 3 (pv 3)) (am_nil)))) (am_nil)))))))
/-! ### keys_changed -/
abbrev s_keys_changed : Stmt := top 28
theorem sc_keys_changed : FnScope ["statements", "row"] ["statements"] (defScope s_keys_changed) := ⟨rfl, rfl, rfl, by decide +kernel, rfl, by decide +kernel, by decide +kernel⟩
def b_keys_changed : En → Option Fl := mRet (mCallB fTuple (aCons (mUn fSort1 (mComp (mItems (mVar 0)) [1] (fName 1) (mTest (mOp (pIn false) (mOp pIx (mVarB 1) (mC (.int 0))) (mTup (cCons (mC (.str "put")) (cCons (mC (.str "cut")) (cNil)))))) (mOp pIx (mVarB 1) (mC (.int 1))))) (aNil)))
def f_keys_changed : List D → Option D := mfOf 2 b_keys_changed
theorem d_keys_changed (G : Gs K mg)  : Df P w K mg base 1 "keys_changed" 1 f_keys_changed := by
    have S := sc_keys_changed
    exact df_mk G.d_keys_changed sc_keys_changed rfl (fun _ _ _ _ _ _ us hl => match us, hl with | [_], _ => rfl) fun f cdv A outer s H E hr => ssm_one (sm_ret (pm_callTy (call_tuple_of) rc_tuple (by rfl) G.b_tuple (by decide +kernel) (am_cons (PM.toB (pm_sortSet rfl (by rfl) G.b_sorted (by rfl) G.b_set (PM.toB (pm_comp (own := [("row", 1)]) rfl S.nd (im_seq (pm_var 0 (pv 0))) (blkOk_by (own := [("row", 1)]) (N := ["statements", "row"]) (sc := defScope s_keys_changed) (by decide +kernel)) (fun _ _ _ _ _ => gm_name 1 S.nd rfl (by first | exact Or.inl rfl | exact Or.inr rfl)) (fun _ _ _ _ _ => ts_one (tm_cmp (op_inU (u65_of hr)) rv_in (PM.toB (pm_ix ix_seq rv_ix (bm_var 1 (pv 1)) (PM.toB (pm_int)) (fun _ _ => rfl))) (PM.toB (pm_tup (cm_cons (pm_str) (cm_cons (pm_str) (cm_nil))))) (by first | exact nobehind _ (by decide) (by decide) | rfl))) (fun _ _ _ _ _ => pm_ix ix_seq rv_ix (bm_var 1 (pv 1)) (PM.toB (pm_int)) (fun _ _ => rfl)) (by decide))))) (am_nil))))
/-! ### read_answer -/
abbrev s_read_answer : Stmt := top 34
theorem sc_read_answer : FnScope ["rows", "statement", "word"] ["rows", "statement"] (defScope s_read_answer) := ⟨rfl, rfl, rfl, by decide +kernel, rfl, by decide +kernel, by decide +kernel⟩
def b_read_answer : En → Option Fl := mSeq (mAsg (mOp pIx (mVarB 1) (mC (.int 0))) (fName 2)) (mSeq (mIfS (mTest (mOp (pEqv false) (mVarB 2) (mC (.str "get")))) (mRet (mCall 2 f_value_in (cCons (mVar 0) (cCons (mOp pIx (mVarB 1) (mC (.int 1))) (cNil))))) (mNx)) (mSeq (mIfS (mTest (mOp (pEqv false) (mVarB 2) (mC (.str "count")))) (mRet (mCallB fLen (aCons (mNo) (aNil)))) (mNx)) (mRet (mNo))))
def f_read_answer : List D → Option D := mfOf 3 b_read_answer
theorem d_read_answer (G : Gs K mg) (F_value_in : Df P w K mg base 1 "value_in" 2 f_value_in) : Df P w K mg base 2 "read_answer" 2 f_read_answer := by
    have S := sc_read_answer
    exact df_mk G.d_read_answer sc_read_answer rfl (fun _ _ _ _ _ _ us hl => match us, hl with | [_, _], _ => rfl) fun f cdv A outer s H E hr => ssm_cons (sm_set 2 (pm_ix ix_seq rv_ix (bm_var 1 (pv 1)) (PM.toB (pm_int)) (fun _ _ => rfl)) S.nd rfl (by first | exact Or.inl rfl | exact Or.inr rfl)) (ssm_cons (sm_if (tm_cmp (op_eqD (u64_of hr)) rv_eq (bm_var 2 (pv 2)) (PM.toB (pm_str)) (by first | exact nobehind _ (by decide) (by decide) | rfl)) (ssm_one (sm_ret (pm_call F_value_in hr (by rfl) (cm_cons (pm_var 0 (pv 0)) (cm_cons (pm_ix ix_seq rv_ix (bm_var 1 (pv 1)) (PM.toB (pm_int)) (fun _ _ => rfl)) (cm_nil)))))) (ssm_nil)) (ssm_cons (sm_if (tm_cmp (op_eqD (u64_of hr)) rv_eq (bm_var 2 (pv 2)) (PM.toB (pm_str)) (by first | exact nobehind _ (by decide) (by decide) | rfl)) (ssm_one (sm_ret (pm_callB (call_lenU) rc_len (by rfl) G.b_len (by decide +kernel) (am_cons (PM.toB (pm_no)) (am_nil))))) (ssm_nil)) (ssm_one (sm_ret (pm_no)))))
/-! ### same_answers -/
abbrev s_same_answers : Stmt := top 37
theorem sc_same_answers : FnScope ["one", "other", "a", "b"] ["one", "other"] (defScope s_same_answers) := ⟨rfl, rfl, rfl, by decide +kernel, rfl, by decide +kernel, by decide +kernel⟩
def b_same_answers (c_self : List D → Option D) : En → Option Fl := mSeq (mIfS (mAnd (mTru (mIsi .tTuple (mVarB 0))) (mTru (mIsi .tTuple (mVarB 1)))) (mRet (mAndV (mOp (pEqv false) (mCallB fLen (aCons (mVarB 0) (aNil))) (mCallB fLen (aCons (mVarB 1) (aNil)))) (mCallB fAll (aCons (mComp (mZip (cCons (mVar 0) (cCons (mVar 1) (cNil)))) [2, 3] (fTup 2 (fsCons (fName 2) (fsCons (fName 3) (fsNil)))) (fun _ => pure true) (mCall 2 c_self (cCons (mVar 2) (cCons (mVar 3) (cNil))))) (aNil))))) (mNx)) (mRet (mAndV (mOp (pEqv false) (mIsi .tBool (mVarB 0)) (mIsi .tBool (mVarB 1))) (mOp (pEqv false) (mVarB 0) (mVarB 1))))
def r_same_answers : Nat → List D → Option D
  | 0 => fun _ => none
  | n + 1 => mfOf 4 (b_same_answers (r_same_answers n))
theorem d_same_answers (G : Gs K mg)  : ∀ n, Df P w K mg base n "same_answers" 2 (r_same_answers n)
  | 0 => df_none G.d_same_answers (ps := ["one", "other"]) rfl (fun _ _ _ _ _ _ us hl => match us, hl with | [_, _], _ => rfl)
  | n + 1 => by
    have F_self := d_same_answers G n
    have S := sc_same_answers
    exact df_mk G.d_same_answers sc_same_answers rfl (fun _ _ _ _ _ _ us hl => match us, hl with | [_, _], _ => rfl) fun f cdv A outer s H E hr => ssm_cons (sm_if (WM.toT (wm_and (tm_tru (PM.toB (pm_isi .tTuple (by rfl) G.b_isinstance (by decide +kernel) (by rfl) G.b_tuple (by decide +kernel) (bm_var 0 (pv 0)))) (fun _ => rfl)) (wm_and1 (tm_tru (PM.toB (pm_isi .tTuple (by rfl) G.b_isinstance (by decide +kernel) (by rfl) G.b_tuple (by decide +kernel) (bm_var 1 (pv 1)))) (fun _ => rfl))))) (ssm_one (sm_ret (pm_and (pm_cmp (op_eqD (u64_of hr)) rv_eq (PM.toB (pm_callB (call_lenU) rc_len (by rfl) G.b_len (by decide +kernel) (am_cons (bm_var 0 (pv 0)) (am_nil)))) (PM.toB (pm_callB (call_lenU) rc_len (by rfl) G.b_len (by decide +kernel) (am_cons (bm_var 1 (pv 1)) (am_nil)))) (by first | exact nobehind _ (by decide) (by decide) | rfl)) (pm_one (pm_callB (cr_all rfl) rc_all (by rfl) G.b_all (by decide +kernel) (am_cons (PM.toB (pm_comp (own := [("a", 2), ("b", 3)]) rfl S.nd (im_zip (by rfl) G.b_zip (cm_cons (pm_var 0 (pv 0)) (cm_cons (pm_var 1 (pv 1)) (cm_nil)))) (blkOk_by (own := [("a", 2), ("b", 3)]) (N := ["one", "other", "a", "b"]) (sc := defScope s_same_answers) (by decide +kernel)) (fun _ _ _ _ _ => gm_tup rfl (gsm_cons (gm_name 2 S.nd rfl (by first | exact Or.inl rfl | exact Or.inr rfl)) (gsm_cons (gm_name 3 S.nd rfl (by first | exact Or.inl rfl | exact Or.inr rfl)) (gsm_nil)))) (fun _ _ _ _ _ => ts_nil) (fun _ _ _ _ _ => pm_call F_self hr (by rfl) (cm_cons (pm_var 2 (pv 2)) (cm_cons (pm_var 3 (pv 3)) (cm_nil)))) (by decide))) (am_nil))))))) (ssm_nil)) (ssm_one (sm_ret (pm_and (pm_cmp (op_eqD (u64_of hr)) rv_eq (PM.toB (pm_isi .tBool (by rfl) G.b_isinstance (by decide +kernel) (by rfl) G.b_bool (by decide +kernel) (bm_var 0 (pv 0)))) (PM.toB (pm_isi .tBool (by rfl) G.b_isinstance (by decide +kernel) (by rfl) G.b_bool (by decide +kernel) (bm_var 1 (pv 1)))) (by first | exact nobehind _ (by decide) (by decide) | rfl)) (pm_one (pm_cmp (op_eqD (u64_of hr)) rv_eq (bm_var 0 (pv 0)) (bm_var 1 (pv 1)) (by first | exact nobehind _ (by decide) (by decide) | rfl))))))
def f_same_answers : List D → Option D := r_same_answers 4
end
end K70
set_option Elab.async false
set_option linter.all false
set_option maxRecDepth 100000
set_option maxHeartbeats 2000000
set_option autoImplicit false
namespace K70
open PySem PySem.Spec PyProof.Rows L2 Fm
open Evl (Ex ex_l ex_t ex_rd)
/-! ### PlainTransaction: one that holds its rows -/
abbrev sC : Stmt := top 35
abbrev sInit : Stmt := inClass sC 0
abbrev sRows : Stmt := inClass sC 1
abbrev sAns : Stmt := inClass sC 2
def flds (r s : V) : List (Str × V) := [("_rows", r), ("_saved", s)]
structure ClsPT (K : PySem.W.Frag) (mg : Str → Option Value) (C fi fr fa : Addr) : Prop where
  cl : Cls K C
  nR : NoAttr K C "_rows"
  nS : NoAttr K C "_saved"
  make : Mk K C fi
  mg : mg "PlainTransaction" = some (.ref C)
  mR : Meth K C "rows" fr
  mA : Meth K C "answer" fa
def mPut (dr : D) : List D → Option (D × D)
  | [k, x] => (f_with_value [dr, k, x]).map fun d => (.bl true, d)
  | _ => none
def mGet (dr : D) : List D → Option (D × D)
  | [k] => (f_read_answer [dr, .tup [.str "get", k]]).map fun d => (d, dr)
  | _ => none
def mAns (dr ds : D) : Option (D × D) := match ds with
  | .tup (.str w :: r) => if w = "put" then mPut dr r else if w = "get" then mGet dr r else none
  | _ => none
def spAns (K : PySem.W.Frag) (C : Addr) : Sp := fun vs H Q _ => ∃ (p dx : Addr) (sv rv v : V) (Hf : Hp) (dr ds a dr' : D), vs = [.ref p, v] ∧ H p = some (.ins C dx (flds rv sv)) ∧ Hf p = none ∧ Ex Hf H ∧ Rp K Hf dr rv ∧ Rp K Hf ds v ∧ mAns dr ds = some (a, dr') ∧
  ∀ av rv' Hf2 H2, Step (· = p) Hf H Hf2 H2 → H2 p = some (.ins C dx (flds rv' sv)) → Rp K Hf2 a av → Rp K Hf2 dr' rv' → Q av H2
theorem mAns_cases {dr ds a dr' : D} (h : mAns dr ds = some (a, dr')) : (∃ k x, ds = .tup [.str "put", k, x] ∧ f_with_value [dr, k, x] = some dr' ∧ a = .bl true) ∨ (∃ k, ds = .tup [.str "get", k] ∧ f_read_answer [dr, .tup [.str "get", k]] = some a ∧ dr' = dr) := by
  cases ds with
  | tup xs =>
    cases xs with
    | nil => cases h
    | cons d r =>
      cases d with
      | str w =>
        by_cases h1 : w = "put"
        · subst h1
          replace h : mPut dr r = some (a, dr') := (if_pos rfl).symm.trans (show (if ("put" : Str) = "put" then mPut dr r else if ("put" : Str) = "get" then mGet dr r else none) = some (a, dr') from h)
          match r, h with
          | [k, x], h =>
            replace h : ((f_with_value [dr, k, x]).map fun d => (D.bl true, d)) = some (a, dr') := h
            cases e : f_with_value [dr, k, x] with
            | none => rw [e] at h; cases h
            | some d => rw [e] at h; cases h; exact .inl ⟨k, x, rfl, e, rfl⟩
        · replace h : (if w = "get" then mGet dr r else none) = some (a, dr') := (if_neg h1).symm.trans (show (if w = "put" then mPut dr r else if w = "get" then mGet dr r else none) = some (a, dr') from h)
          by_cases h2 : w = "get"
          · subst h2
            rw [if_pos rfl] at h
            match r, h with
            | [k], h =>
              replace h : ((f_read_answer [dr, .tup [.str "get", k]]).map fun d => (d, dr)) = some (a, dr') := h
              cases e : f_read_answer [dr, .tup [.str "get", k]] with
              | none => rw [e] at h; cases h
              | some d => rw [e] at h; cases h; exact .inr ⟨k, rfl, e, rfl⟩
          · rw [if_neg h2] at h
            cases h
      | _ => cases h
  | _ => cases h
theorem tst {x : Sl} {s t : Str} {b : Bool} (h : pEqv false (.str s) (.str t) = some (.bl b)) : (mTest (mOp (pEqv false) (mVarB 2) (mC (.str t))) : En → Option Bool) [.un, x, .sh (.str s)] = some b := by
  show (lift (pEqv false (.str s) (.str t)) >>= fun x => lift x.toB : Option Bool) = some b
  rw [h]
  rfl
theorem Step.own {Hf H Hf2 H2 : Hp} {p : Addr} {o : HO} (s : Step nB Hf H Hf2 H2) (h1 : Hf2 p = none) : Step (· = p) Hf H Hf2 (upd H2 p o) := by
  refine ⟨s.f, fun a u e => ?_, s.n, fun a u nb e => ?_, fun a n => ?_⟩
  · have : a ≠ p := fun z => by rw [z, h1] at e; cases e
    rw [upd_ne this]; exact s.i a u e
  · rw [upd_ne nb]; exact s.k a u id e
  · by_cases z : a = p
    · rw [z, upd_same]; simp
    · rw [upd_ne z]; exact s.l a n
theorem env3 {K : PySem.W.Frag} {Hf H : Hp} {v0 v1 : V} {o : Option V} {ds : D} {s : Sl} (hi : Ex Hf H) (r : Rp K Hf ds v1) (hs : s = .un ∨ ∃ d v, s = .sh d ∧ o = some v ∧ Rp K Hf d v) : EnvOk K none Hf H [.un, .sh ds, s] [some v0, some v1, o] Hf H := by
  refine env_hand hi rfl (by rcases hs with rfl | ⟨d, v, rfl, _⟩ <;> rfl) fun j d e => ?_
  match j, e with
  | 1, e => cases e; exact ⟨v1, rfl, r⟩
  | 2, e =>
    rcases hs with rfl | ⟨d', v, rfl, rfl, r'⟩
    · cases e
    · cases e; exact ⟨v, rfl, r'⟩
section
variable {P : Program} {w : World} {K : PySem.W.Frag} {mg : Str → Option Value} {base : Heap} {C fi fr fa : Addr}
theorem nRS : ¬ (("_rows" : Str) = "_saved") := by decide +kernel
theorem look_rows (r s : V) : (flds r s).lookup ("_rows" : Str) = some r := by unfold flds; simp
theorem put_rows (r s x : V) : putF "_rows" x (flds r s) = flds x s := by
  unfold flds
  show (if ("_rows" : Str) = "_rows" then _ else _) = _
  rw [if_pos rfl]
theorem sc_ans : FnScope ["self", "statement", "word"] ["self", "statement"] (defScope sAns) := ⟨rfl, rfl, rfl, by decide +kernel, rfl, by decide +kernel, by decide +kernel⟩
theorem ok_ans {fd : FuncData} (F : Fun K "answer" "PlainTransaction.answer" sAns fa fd) (T : ClsPT K mg C fi fr fa) (FW : Df P w K mg base 1 "with_value" 3 f_with_value) (FR : Df P w K mg base 2 "read_answer" 2 f_read_answer) : FnOk P w K mg base CX0 3 fa fd ["self", "statement"] (spAns K C) := by
  obtain ⟨fw, fdw, psw, GW, mw, kw, bw⟩ := FW.ex
  obtain ⟨fr2, fdr, psr, GR, mr, kr, br⟩ := FR.ex
  have S := sc_ans
  refine F.ok S (fun vs H Q E h => ?_) (fun cdv A outer s H vs Q E hr h => ?_)
  · obtain ⟨p, dx, sv, rv, v, Hf, dr, ds, a, dr', rfl, _⟩ := h
    rfl
  · obtain ⟨p, dx, sv, rv, v, Hf, dr, ds, a, dr', rfl, hp, hfp, hi, r1, r2, hm, k⟩ := h
    refine ⟨_, pss_cons (ps_set (i := 2) S.nd rfl (Or.inl rfl) (PM.can (M := Option) (bx := none) (me := mOp pIx (mVarB 1) (mC (.int 0))) (pm_ix ix_seq rv_ix (bm_var 1 (pv 1)) (PM.toB pm_int) (fun _ _ => rfl))))
      (pss_cons (ps_if (TM.can (M := Option) (bx := none) (mt := mTest (mOp (pEqv false) (mVarB 2) (mC (.str "put")))) (tm_cmp (op_eqD (u64_of hr)) rv_eq (bm_var 2 (pv 2)) (PM.toB pm_str) (nomark _)))
        (pss_one (ps_fld (pv 0) (pe_call (dvs := []) (E := fun _ _ _ => False) GW (hr.mono (by decide)) (by rfl) mw kw bw .nil pass0 (pa_cons (pe_fld (pv 0) rfl) (pa_cons (PM.can (M := Option) (bx := none) (me := mOp pIx (mVarB 1) (mC (.int 1))) (pm_ix ix_seq rv_ix (bm_var 1 (pv 1)) (PM.toB pm_int) (fun _ _ => rfl))) (pa_cons (PM.can (M := Option) (bx := none) (me := mOp pIx (mVarB 1) (mC (.int 2))) (pm_ix ix_seq rv_ix (bm_var 1 (pv 1)) (PM.toB pm_int) (fun _ _ => rfl))) pa_nil)))) rfl))
        (pss_one (ps_if (TM.can (M := Option) (bx := none) (mt := mTest (mOp (pEqv false) (mVarB 2) (mC (.str "cut")))) (tm_cmp (op_eqD (u64_of hr)) rv_eq (bm_var 2 (pv 2)) (PM.toB pm_str) (nomark _))) pss_never
          (pss_one (ps_if (TM.can (M := Option) (bx := none) (mt := mTest (mOp (pEqv false) (mVarB 2) (mC (.str "save")))) (tm_cmp (op_eqD (u64_of hr)) rv_eq (bm_var 2 (pv 2)) (PM.toB pm_str) (nomark _))) pss_never
            (pss_one (ps_if (TM.can (M := Option) (bx := none) (mt := mTest (mOp (pEqv false) (mVarB 2) (mC (.str "back")))) (tm_cmp (op_eqD (u64_of hr)) rv_eq (bm_var 2 (pv 2)) (PM.toB pm_str) (nomark _))) pss_never
              (pss_one (ps_ret (pe_call (dvs := []) (E := fun _ _ _ => False) GR (hr.mono (by decide)) (by rfl) mr kr br .nil pass0 (pa_cons (pe_fld (pv 0) rfl) (pa_cons (PM.can (M := Option) (bx := none) (me := mVar 1) (pm_var 1 (pv 1))) pa_nil))))))))))))
      (pss_one (ps_ret pe_bl))), ?_⟩
    have np : H p ≠ none := by rw [hp]; simp
    have later : ∀ {Hf1 H1 : Hp}, Step nB Hf H Hf1 H1 → H1 p = some (.ins C dx (flds rv sv)) ∧ Hf1 p = none := fun s => ⟨s.k p _ id hp, s.n p hfp np⟩
    rcases mAns_cases hm with ⟨dk, dv, rfl, hw, rfl⟩ | ⟨dk, rfl, hw, rfl⟩
    · refine run_e (env3 (v0 := .ref p) (v1 := v) (o := none) (s := .un) hi r2 (.inl rfl)) (d := .str "put") rfl fun v1 Hf1 H1 s1 q1 => ?_
      refine run_t (env3 (v0 := .ref p) (v1 := v) (o := some v1) (s := .sh (.str "put")) s1.i (r2.mono s1.f) (.inr ⟨_, _, rfl, rfl, q1⟩)) (d := true) (tst (by first | rfl | with_unfolding_all rfl)) fun Hf2 H2 s2 => iteT ?_
      have s12 := s1.trans s2
      refine ⟨_, rfl, p, C, dx, _, rv, rfl, (later s12).1, T.cl, T.nR, look_rows _ _, ?_⟩
      refine run_e (env3 (v0 := .ref p) (v1 := v) (o := some v1) (s := .sh (.str "put")) s2.i (r2.mono s12.f) (.inr ⟨_, _, rfl, rfl, q1.mono s2.f⟩)) (d := dk) rfl fun v2 Hf3 H3 s3 q3 => ?_
      have s13 := s12.trans s3
      refine run_e (env3 (v0 := .ref p) (v1 := v) (o := some v1) (s := .sh (.str "put")) s3.i (r2.mono s13.f) (.inr ⟨_, _, rfl, rfl, (q1.mono s2.f).mono s3.f⟩)) (d := dv) rfl fun v3 Hf4 H4 s4 q4 => ?_
      have s14 := s13.trans s4
      refine ⟨Hf4, [dr, dk, dv], dr', s4.i, .cons (r1.mono s14.f) (.cons (q3.mono s4.f) (.cons q4 .nil)), rfl, hw, fun y Hf5 H5 s5 r5 => ?_⟩
      have s15 := s14.trans s5
      refine ⟨_, rfl, p, C, dx, _, rfl, (later s15).1, T.cl, T.nR, by show 2 < 1000; decide, ?_⟩
      exact k (.bl true) y Hf5 _ (Step.own s15 (later s15).2) (by rw [upd_same, put_rows]) (.bl true) r5
    · have r0 := r2
      refine run_e (env3 (v0 := .ref p) (v1 := v) (o := none) (s := .un) hi r2 (.inl rfl)) (d := .str "get") rfl fun v1 Hf1 H1 s1 q1 => ?_
      refine run_t (env3 (v0 := .ref p) (v1 := v) (o := some v1) (s := .sh (.str "get")) s1.i (r2.mono s1.f) (.inr ⟨_, _, rfl, rfl, q1⟩)) (d := false) (tst (by first | rfl | with_unfolding_all rfl)) fun Hf2 H2 s2 => iteF ?_
      have s12 := s1.trans s2
      refine run_t (env3 (v0 := .ref p) (v1 := v) (o := some v1) (s := .sh (.str "get")) s2.i (r2.mono s12.f) (.inr ⟨_, _, rfl, rfl, q1.mono s2.f⟩)) (d := false) (tst (by first | rfl | with_unfolding_all rfl)) fun Hf3 H3 s3 => iteF ?_
      have s13 := s12.trans s3
      refine run_t (env3 (v0 := .ref p) (v1 := v) (o := some v1) (s := .sh (.str "get")) s3.i (r2.mono s13.f) (.inr ⟨_, _, rfl, rfl, (q1.mono s2.f).mono s3.f⟩)) (d := false) (tst (by first | rfl | with_unfolding_all rfl)) fun Hf4 H4 s4 => iteF ?_
      have s14 := s13.trans s4
      refine run_t (env3 (v0 := .ref p) (v1 := v) (o := some v1) (s := .sh (.str "get")) s4.i (r2.mono s14.f) (.inr ⟨_, _, rfl, rfl, ((q1.mono s2.f).mono s3.f).mono s4.f⟩)) (d := false) (tst (by first | rfl | with_unfolding_all rfl)) fun Hf5 H5 s5 => iteF ?_
      have s15 := s14.trans s5
      refine ⟨_, rfl, p, C, dx, _, rv, rfl, (later s15).1, T.cl, T.nR, look_rows _ _, ?_⟩
      refine run_e (env3 (v0 := .ref p) (v1 := v) (o := some v1) (s := .sh (.str "get")) s5.i (r2.mono s15.f) (.inr ⟨_, _, rfl, rfl, (((q1.mono s2.f).mono s3.f).mono s4.f).mono s5.f⟩)) (d := .tup [.str "get", dk]) rfl fun v2 Hf6 H6 s6 q6 => ?_
      have s16 := s15.trans s6
      refine ⟨Hf6, [dr', .tup [.str "get", dk]], a, s6.i, .cons (r1.mono s16.f) (.cons q6 .nil), rfl, hw, fun y Hf7 H7 s7 r7 => ?_⟩
      have s17 := s16.trans s7
      exact k y rv Hf7 H7 (s17.wk fun _ z => z.elim) (later s17).1 r7 (r1.mono s17.f)
/-! ### self.x as a target -/
theorem pg_fld {X : Cx} {o : Expr} {f : Str} {pos : Pos} {to : TE} (ho : PE X o to) : PG X (.Attribute o f pos) (fun v σ H Q => to σ H fun x H1 => ∃ a C dx fs, x = .ref a ∧ H1 a = some (.ins C dx fs) ∧ Cls X.K C ∧ NoAttr X.K C f ∧ fs.length < 1000 ∧ Q σ (upd H1 a (.ins C dx (putF f v fs)))) := by
  refine ⟨fun pins s σ H v u Q I r h => ?_⟩
  rw [assign_Attribute]
  refine wpAny_bind (wpAny_holding (thn (ho.run pins s σ H _ I h) fun ov s1 ⟨x, H1, I1, rx, a, C, dx, fs, ex, ea, c, n, l, q⟩ => ?_))
  subst ex
  obtain rfl : ov = Value.ref a := rx
  refine wpAny_bind (wpAny_standAt (wpAny_bind (wpAny_holding (setattr_ok I1 ea c n l r fun s3 I3 => wpAny_release ⟨σ, _, I3, q⟩))))
def spIni (C : Addr) : Sp := fun vs H Q _ => ∃ (p dx : Addr) (rv : V), vs = [.ref p, rv] ∧ H p = some (.ins C dx []) ∧ ∀ (sv : Addr) (H2 : Hp), (∀ a o, a ≠ p → H a = some o → H2 a = some o) → (∀ a, H a ≠ none → H2 a ≠ none) → H2 p = some (.ins C dx (flds rv (.ref sv))) → Q .non H2
theorem sc_ini : FnScope ["self", "rows"] ["self", "rows"] (defScope sInit) := ⟨rfl, rfl, rfl, by decide +kernel, rfl, by decide +kernel, by decide +kernel⟩
theorem ok_ini {fd : FuncData} (F : Fun K "__init__" "PlainTransaction.__init__" sInit fi fd) (T : ClsPT K mg C fi fr fa) : FnOk P w K mg base CX0 1 fi fd ["self", "rows"] (spIni C) := by
  have S := sc_ini
  refine F.ok S (fun vs H Q E h => ?_) (fun cdv A outer s H vs Q E hr h => ?_)
  · obtain ⟨p, dx, rv, rfl, _⟩ := h
    rfl
  · obtain ⟨p, dx, rv, rfl, hp, k⟩ := h
    refine ⟨_, pss_one (ps_asg (pe_tup (pa_cons (pv 1) (pa_cons pe_dnewK pa_nil))) (pg_tup rfl (pgs_cons (pg_fld (pv 0)) (pgs_cons (pg_fld (pv 0)) pgs_nil)))), ?_⟩
    refine ⟨rv, rfl, fun d hd => ⟨by show 2 ≤ sizeLine; decide, fun t ht => ?_⟩⟩
    have npd : p ≠ d := ne_of_none hp hd
    have hp1 : (upd H d (.dK [])) p = some (.ins C dx []) := by rw [upd_ne npd]; exact hp
    have npt : p ≠ t := ne_of_none hp1 ht
    refine ⟨t, _, rfl, .of upd_same, rfl, rv, _, rfl, .ref p, rfl, p, C, dx, [], rfl, by rw [upd_ne npt]; exact hp1, T.cl, T.nR, by decide, .ref d, _, rfl, .ref p, rfl, p, C, dx, _, rfl, upd_same, T.cl, T.nS, by show 1 < 1000; decide, rfl, ?_⟩
    refine k d _ (fun a o na e => ?_) (fun a n => ?_) (by rw [upd_same]; rfl)
    · rw [upd_ne na, upd_ne na, upd_ne (ne_of_none (by rw [upd_ne (ne_of_none e hd)]; exact e) ht), upd_ne (ne_of_none e hd)]
      exact e
    · by_cases z : a = p
      · rw [z, upd_same]; simp
      · rw [upd_ne z, upd_ne z]
        by_cases z2 : a = t
        · rw [z2, upd_same]; simp
        · rw [upd_ne z2]
          by_cases z3 : a = d
          · rw [z3, upd_same]; simp
          · rw [upd_ne z3]; exact n
def spRows (C : Addr) : Sp := fun vs H Q _ => ∃ (p dx : Addr) (rv sv : V), vs = [.ref p] ∧ H p = some (.ins C dx (flds rv sv)) ∧ Q rv H
theorem sc_rows : FnScope ["self"] ["self"] (defScope sRows) := ⟨rfl, rfl, rfl, by decide +kernel, rfl, by decide +kernel, by decide +kernel⟩
theorem ok_rows {fd : FuncData} (F : Fun K "rows" "PlainTransaction.rows" sRows fr fd) (T : ClsPT K mg C fi fr fa) : FnOk P w K mg base CX0 1 fr fd ["self"] (spRows C) := by
  have S := sc_rows
  refine F.ok S (fun vs H Q E h => ?_) (fun cdv A outer s H vs Q E hr h => ?_)
  · obtain ⟨p, dx, rv, sv, rfl, _⟩ := h
    rfl
  · obtain ⟨p, dx, rv, sv, rfl, hp, k⟩ := h
    exact ⟨_, pss_one (ps_ret (pe_fld (pv 0) rfl)), _, rfl, p, C, dx, _, rv, rfl, hp, T.cl, T.nR, look_rows _ _, k⟩
/-! ### plain_answers -/
def ansL : D → List D → List D → Option (List D × D)
  | dr, [], acc => some (acc, dr)
  | dr, st :: r, acc => (mAns dr st).bind fun p => ansL p.2 r (acc ++ [p.1])
def f_plain_answers : List D → Option D
  | [dr, .tup sts] => if sts.length ≤ 1000 then (ansL dr sts []).map fun p => .tup [.tup p.1, p.2] else none
  | _ => none
theorem look_no {r s : V} {m : Str} (h1 : (m == ("_rows" : Str)) = false) (h2 : (m == ("_saved" : Str)) = false) : (flds r s).lookup m = none := by
  unfold flds
  simp [List.lookup, h1, h2]
abbrev sPl : Stmt := top 36
theorem sc_pl : FnScope ["rows", "statements", "transaction", "statement", "answers"] ["rows", "statements"] (defScope sPl) := ⟨rfl, rfl, rfl, by decide +kernel, rfl, by decide +kernel, by decide +kernel⟩
/-- where the answers stand -/
structure PlI (K : PySem.W.Frag) (C : Addr) (Hf H : Hp) (x dx : Addr) (sv : V) (D : Addr) (sts : List Fm.D) (res : List Fm.D × Fm.D) (i : Nat) (H' : Hp) : Prop where
  ex : ∃ (Hf' : Hp) (dr : Fm.D) (rv : V) (acc : List Fm.D) (vs : List V), Step nB Hf H Hf' H' ∧ H' x = some (.ins C dx (flds rv sv)) ∧ Hf' x = none ∧ H' D = some (.lst vs) ∧ Hf' D = none ∧ RpL K Hf' acc vs ∧ Rp K Hf' dr rv ∧ acc.length = i ∧ ansL dr (sts.drop i) acc = some res
theorem d_plain_answers (G : Gs K mg) {fdi fdr fda : FuncData} (T : ClsPT K mg C fi fr fa) (FI : Fun K "__init__" "PlainTransaction.__init__" sInit fi fdi) (bI : Binds K fdi ["self", "rows"] []) (FRo : Fun K "rows" "PlainTransaction.rows" sRows fr fdr) (bR : Binds K fdr ["self"] [])
    (FA : Fun K "answer" "PlainTransaction.answer" sAns fa fda) (bA : Binds K fda ["self", "statement"] []) (FW : Df P w K mg base 1 "with_value" 3 f_with_value) (FR : Df P w K mg base 2 "read_answer" 2 f_read_answer) : Df P w K mg base 4 "plain_answers" 2 f_plain_answers := by
  have GI : FnOk P w K mg base CX0 1 fi fdi ["self", "rows"] (spIni C) := ok_ini FI T
  have GR : FnOk P w K mg base CX0 1 fr fdr ["self"] (spRows C) := ok_rows FRo T
  have GA : FnOk P w K mg base CX0 3 fa fda ["self", "statement"] (spAns K C) := ok_ans FA T FW FR
  obtain ⟨f, fd, F, hm⟩ := G.d_plain_answers.ex
  have S := sc_pl
  refine ⟨f, fd, ["rows", "statements"], F.ok S (fun vs H Q E h => ?_) (fun cdv A outer s H vs Q E hr h => ?_), hm, F.kp, F.binds (fun _ _ _ _ _ _ us hl => match us, hl with | [_, _], _ => rfl)⟩
  · obtain ⟨Hf, ds, d, i, r, l, e, q⟩ := h
    rw [← r.length, l]; rfl
  · obtain ⟨Hf, ds, d, hi, r, l, e, k⟩ := h
    have key : ∃ dr sts, ds = [dr, .tup sts] := by
      match ds, e with
      | [dr, .tup sts], _ => exact ⟨dr, sts, rfl⟩
    obtain ⟨dr, sts, rfl⟩ := key
    replace e : (if sts.length ≤ 1000 then (ansL dr sts []).map fun p => D.tup [.tup p.1, p.2] else none) = some d := e
    by_cases hlen : sts.length ≤ 1000
    case neg => rw [if_neg hlen] at e; cases e
    rw [if_pos hlen] at e
    cases er : ansL dr sts [] with
    | none => rw [er] at e; cases e
    | some res =>
      rw [er] at e
      cases e
      obtain ⟨rv, av, rfl, r1, r2⟩ : ∃ rv av, vs = [rv, av] ∧ Rp K Hf dr rv ∧ Rp K Hf (.tup sts) av := by
        cases r with
        | cons a b =>
          cases b with
          | cons a2 b2 => cases b2; exact ⟨_, _, rfl, a, a2⟩
      cases r2 with
      | @tup ad xs _ hsq rl =>
        refine ⟨_, pss_cons (ps_set (i := 2) S.nd rfl (by first | exact Or.inl rfl | exact Or.inr rfl) (pe_make T.make GI (hr.mono (by decide)) (by rfl) T.mg bI .nil pass0 (pa_cons (pv 0) pa_nil)))
          (pss_cons (ps_set (i := 4) S.nd rfl (by first | exact Or.inl rfl | exact Or.inr rfl) (pe_callTy call_tuple_of (by rfl) G.b_tuple (by decide +kernel) (pa_cons (pe_lc (own := [("statement", 3)]) (g := gName 3) (tt := tYes) rfl S.nd (pi_tup (pv 1)) (blkOk_by (own := [("statement", 3)]) (N := ["rows", "statements", "transaction", "statement", "answers"]) (sc := defScope sPl) (by decide +kernel))
            (fun _ _ _ _ _ => pg_name (i := 3) S.nd rfl (Or.inl rfl)) (fun _ _ _ _ _ => pts_nil) (fun _ _ _ _ _ => pe_meth (pv 2) T.cl T.mA GA hr bA .nil pass0 (pa_cons (pv 3) pa_nil))) pa_nil)))
          (pss_one (ps_ret (pe_tup (pa_cons (pv 4) (pa_cons (pe_meth0 (pv 2) T.cl T.mR GR (hr.mono (by decide)) bR .nil pass0) pa_nil)))))), ?_⟩
        -- transaction = PlainTransaction(rows)
        refine ⟨rv, rfl, fun x dx nx ndx nex => ⟨x, dx, rv, rfl, upd_same, fun sv H1 keep live hx => ⟨rfl, ?_⟩⟩⟩
        have kp1 : ∀ a o, H a = some o → H1 a = some o := fun a o e => keep a o (ne_of_none e nx) (by rw [upd_ne (ne_of_none e nx), upd_ne (ne_of_none e ndx)]; exact e)
        have hfx : Hf x = none := Evl.fresh_back hi nx
        have s1 : Step nB Hf H Hf H1 := ⟨Ex.refl _, fun a u e => kp1 a u (hi a u e), fun a e _ => e, fun a o _ e => kp1 a o e, fun a n => by
          cases z : H a with
          | none => exact absurd z n
          | some u => rw [kp1 a u z]; simp⟩
        -- answers = tuple([..])
        refine ⟨.ref ad, rfl, ad, rfl, ⟨xs, ex_t s1.i hsq⟩, fun D hD => ?_⟩
        have nxD : x ≠ D := ne_of_none hx hD
        have hD0 : H D = none := none_back s1 hD
        refine lc_tup (K := K) (a := ad) (xs := xs) (fun i H' => PlI K C Hf H x dx (.ref sv) D sts res i H') ⟨Hf, dr, rv, [], [], s1.put hD0 (Evl.fresh_back hi hD0), by rw [upd_ne nxD]; exact hx, hfx, upd_same, Evl.fresh_back hi hD0, .nil, r1, rfl, er⟩
          (fun i H' _ p => ?_) (fun i y H' hy p => ?_) (fun H' p => ?_)
        · obtain ⟨Hf', _, _, _, _, st, _⟩ := p.ex
          exact ex_t (st.f.trans st.i) hsq
        · obtain ⟨Hf', dr1, rv1, acc, vs, st, hx1, hfx1, hD1, hfD1, ra, rr, la, ea⟩ := p.ex
          obtain ⟨ds, eds, rds⟩ := rl.get hy
          have hin : i < sts.length := (List.getElem?_eq_some_iff.mp eds).1
          rw [List.drop_eq_getElem_cons hin, show sts[i] = ds by rw [List.getElem?_eq_getElem hin] at eds; exact Option.some.inj eds] at ea
          replace ea : ((mAns dr1 ds).bind fun p => ansL p.2 (sts.drop (i + 1)) (acc ++ [p.1])) = some res := ea
          cases em : mAns dr1 ds with
          | none => rw [em] at ea; cases ea
          | some an =>
            rw [em] at ea
            refine ⟨(wipe_set (by simp)).trans wipe_idem, iteT (B := PlI K C Hf H x dx (.ref sv) D sts res (i + 1) H') ?_⟩
            refine ⟨.ref x, rfl, x, dx, _, rfl, hx1, look_no (by decide +kernel) (by decide +kernel), y, rfl, ?_⟩
            refine ⟨x, dx, .ref sv, rv1, y, Hf', dr1, ds, an.1, an.2, rfl, hx1, hfx1, st.i, rr, rds.mono st.f, em, fun av rv2 Hf2 H2 st2 hx2 ra2 rr2 => ?_⟩
            have hD2 : H2 D = some (.lst vs) := st2.k D _ (fun z => nxD z.symm) hD1
            have hfD2 : Hf2 D = none := st2.n D hfD1 (by rw [hD1]; simp)
            refine ⟨vs, hD2, ?_, Hf2, an.2, rv2, acc ++ [an.1], vs ++ [av], ?_, by rw [upd_ne nxD]; exact hx2, st2.n x hfx1 (by rw [hx1]; simp), upd_same, hfD2, (ra.mono st2.f).append (.one ra2), rr2, by simp [la], ea⟩
            · rw [← ra.length, la]
              exact small1000 (by omega)
            · have st3 : Step nB Hf H Hf2 H2 := ⟨st.f.trans st2.f, st2.i, fun a e n => st2.n a (st.n a e n) (st.l a n), fun a o _ e => st2.k a o (ne_of_none e nx) (st.k a o id e), fun a n => st2.l a (st.l a n)⟩
              exact st3.put hD0 hfD2
        · obtain ⟨Hf', dr1, rv1, acc, vs, st, hx1, hfx1, hD1, hfD1, ra, rr, la, ea⟩ := p.ex
          have ed : sts.drop xs.length = [] := by rw [← rl.length]; simp
          rw [ed] at ea
          cases ea
          refine ⟨D, vs, rfl, .inl ⟨.of hD1, fun t ht => ?_⟩⟩
          have nxt : x ≠ t := ne_of_none hx1 ht
          refine ⟨.ref t, rfl, .ref x, rfl, x, dx, _, rfl, by rw [upd_ne nxt]; exact hx1, look_no (by decide +kernel) (by decide +kernel), ?_⟩
          refine ⟨x, dx, rv1, .ref sv, rfl, by rw [upd_ne nxt]; exact hx1, by show 2 ≤ sizeLine; decide, fun u hu => ?_⟩
          have s5 := Step.new (B := nB) (o := .tup vs) st.i ht
          have s6 := Step.new (B := nB) (o := .tup [.ref t, rv1]) s5.i hu
          have s56 := s5.trans s6
          refine k _ _ _ (st.trans s56) (.tup (.of upd_same) (.cons (.tup (.of (s6.f _ _ upd_same)) (ra.mono s56.f)) (.cons (rr.mono s56.f) .nil)))
end
end K70
set_option Elab.async false
set_option linter.all false
set_option maxRecDepth 100000
set_option maxHeartbeats 2000000
set_option autoImplicit false
namespace K70
open PySem PySem.Spec PyProof.Rows L2 Fm
section
variable {P : Program} {w : World} {K : PySem.W.Frag} {mg : Str → Option Value} {base : Heap}

/-! ### is_told_answer -/
abbrev s_is_told_answer : Stmt := top 43
theorem sc_is_told_answer : FnScope ["value"] ["value"] (defScope s_is_told_answer) := ⟨rfl, rfl, rfl, by decide +kernel, rfl, by decide +kernel, by decide +kernel⟩
def b_is_told_answer : En → Option Fl := mSeq (mIfS (mOr (mTest (mOp (pIs false) (mVarB 0) (mC .non))) (mTru (mIsi .tBool (mVarB 0)))) (mRet (mOp pIs2 (mVarB 0) (mC (.bl false)))) (mNx)) (mRet (mOrV (mCall 1 f_is_stored (cCons (mVar 0) (cNil))) (mOrV (mAndV (mCall 1 f_is_whole (cCons (mVar 0) (cNil))) (mOp pGe (mVarB 0) (mC (.int 0)))) (mNo))))
def f_is_told_answer : List D → Option D := mfOf 1 b_is_told_answer
theorem d_is_told_answer (G : Gs K mg) (F_is_stored : Df P w K mg base 2 "is_stored" 1 f_is_stored) (F_is_whole : Df P w K mg base 1 "is_whole" 1 f_is_whole) : Df P w K mg base 3 "is_told_answer" 1 f_is_told_answer := by
    have S := sc_is_told_answer
    have F_is_whole := F_is_whole.mono (show 1 ≤ 2 by decide)
    exact df_mk G.d_is_told_answer sc_is_told_answer rfl (fun _ _ _ _ _ _ us hl => match us, hl with | [_], _ => rfl) fun f cdv A outer s H E hr => ssm_cons (sm_if (WM.toT (wm_or (tm_cmp op_isU rv_is (bm_var 0 (pv 0)) (PM.toB (pm_non)) (by first | exact nobehind _ (by decide) (by decide) | rfl)) (wm_or1 (tm_tru (PM.toB (pm_isi .tBool (by rfl) G.b_isinstance (by decide +kernel) (by rfl) G.b_bool (by decide +kernel) (bm_var 0 (pv 0)))) (fun _ => rfl))))) (ssm_one (sm_ret (pm_cmp op_notW rv_notw (bm_var 0 (pv 0)) (PM.toB (pm_bl)) (by first | exact nobehind _ (by decide) (by decide) | rfl)))) (ssm_nil)) (ssm_one (sm_ret (pm_or (pm_call F_is_stored hr (by rfl) (cm_cons (pm_var 0 (pv 0)) (cm_nil))) (pm_or (pm_and (pm_call F_is_whole hr (by rfl) (cm_cons (pm_var 0 (pv 0)) (cm_nil))) (pm_one (pm_cmp op_ge rv_ge (bm_var 0 (pv 0)) (PM.toB (pm_int)) (by first | exact nobehind _ (by decide) (by decide) | rfl)))) (pm_one (pm_no))))))
/-! ### are_inner -/
abbrev s_are_inner : Stmt := top 44
theorem sc_are_inner : FnScope ["value", "saved", "row"] ["value"] (defScope s_are_inner) := ⟨rfl, rfl, rfl, by decide +kernel, rfl, by decide +kernel, by decide +kernel⟩
def b_are_inner : En → Option Fl := mSeq (mIfS (mNot (mTru (mIsi .tTuple (mVarB 0)))) (mRet (mC (.bl false))) (mNx)) (mSeq (mAsg (mTup (cNil)) (fName 1)) (mSeq (mFor (mItems (mVar 0)) (fName 2) (mSeq (mIfS (mOr (mNot (mTru (mIsi .tTuple (mVarB 2)))) (mOr (mTest (mOp (pEqv false) (mVarB 2) (mTup (cNil)))) (mNot (mTru (mIsi .tStr (mOp pIx (mVarB 2) (mC (.int 0)))))))) (mRet (mC (.bl false))) (mNx)) (mSeq (mIfS (mAnd (mNot (mTru (mCall 1 f_is_read (cCons (mVar 2) (cNil))))) (mAnd (mNot (mTru (mCall 1 f_is_write (cCons (mVar 2) (cNil))))) (mNot (mAnd (mNo) (mTest (mOp (pIn false) (mOp pIx (mVarB 2) (mC (.int 0))) (mTup (cCons (mC (.str "save")) (cCons (mC (.str "back")) (cNil)))))))))) (mRet (mC (.bl false))) (mNx)) (mSeq (mIfS (mAnd (mTest (mOp (pEqv false) (mOp pIx (mVarB 2) (mC (.int 0))) (mC (.str "back")))) (mTest (mOp (pIn true) (mOp pIx (mVarB 2) (mC (.int 1))) (mVarB 1)))) (mRet (mC (.bl false))) (mNx)) (mAsg (mIf (mTest (mOp (pEqv false) (mOp pIx (mVarB 2) (mC (.int 0))) (mC (.str "save")))) (mOp pAdd (mVarB 1) (mTup (cCons (mOp pIx (mVarB 2) (mC (.int 1))) (cNil)))) (mVar 1)) (fName 1)))))) (mRet (mC (.bl true)))))
def f_are_inner : List D → Option D := mfOf 3 b_are_inner
theorem d_are_inner (G : Gs K mg) (F_is_read : Df P w K mg base 3 "is_read" 1 f_is_read) (F_is_write : Df P w K mg base 3 "is_write" 1 f_is_write) : Df P w K mg base 4 "are_inner" 1 f_are_inner := by
    have S := sc_are_inner
    exact df_mk G.d_are_inner sc_are_inner rfl (fun _ _ _ _ _ _ us hl => match us, hl with | [_], _ => rfl) fun f cdv A outer s H E hr => ssm_cons (sm_if (tm_not (tm_tru (PM.toB (pm_isi .tTuple (by rfl) G.b_isinstance (by decide +kernel) (by rfl) G.b_tuple (by decide +kernel) (bm_var 0 (pv 0)))) (fun _ => rfl))) (ssm_one (sm_ret (pm_bl))) (ssm_nil)) (ssm_cons (sm_set 1 (pm_tup (cm_nil)) S.nd rfl (by first | exact Or.inl rfl | exact Or.inr rfl)) (ssm_cons (sm_for PassesOwn.never rfl (im_seq (pm_var 0 (pv 0))) (gm_name 2 S.nd rfl (by first | exact Or.inl rfl | exact Or.inr rfl)) (ssm_cons (sm_if (WM.toT (wm_or (tm_not (tm_tru (PM.toB (pm_isi .tTuple (by rfl) G.b_isinstance (by decide +kernel) (by rfl) G.b_tuple (by decide +kernel) (bm_var 2 (pv 2)))) (fun _ => rfl))) (wm_or (tm_cmp (op_eqD (u64_of hr)) rv_eq (bm_var 2 (pv 2)) (PM.toB (pm_tup (cm_nil))) (by first | exact nobehind _ (by decide) (by decide) | rfl)) (wm_or1 (tm_not (tm_tru (PM.toB (pm_isi .tStr (by rfl) G.b_isinstance (by decide +kernel) (by rfl) G.b_str (by decide +kernel) (PM.toB (pm_ix ix_seq rv_ix (bm_var 2 (pv 2)) (PM.toB (pm_int)) (fun _ _ => rfl))))) (fun _ => rfl))))))) (ssm_one (sm_ret (pm_bl))) (ssm_nil)) (ssm_cons (sm_if (WM.toT (wm_and (tm_not (tm_tru (PM.toB (pm_call F_is_read hr (by rfl) (cm_cons (pm_var 2 (pv 2)) (cm_nil)))) (fun _ => rfl))) (wm_and (tm_not (tm_tru (PM.toB (pm_call F_is_write hr (by rfl) (cm_cons (pm_var 2 (pv 2)) (cm_nil)))) (fun _ => rfl))) (wm_and1 (tm_not (WM.toT (wm_and (tm_no) (wm_and1 (tm_cmp (op_inU (u65_of hr)) rv_in (PM.toB (pm_ix ix_seq rv_ix (bm_var 2 (pv 2)) (PM.toB (pm_int)) (fun _ _ => rfl))) (PM.toB (pm_tup (cm_cons (pm_str) (cm_cons (pm_str) (cm_nil))))) (by first | exact nobehind _ (by decide) (by decide) | rfl)))))))))) (ssm_one (sm_ret (pm_bl))) (ssm_nil)) (ssm_cons (sm_if (WM.toT (wm_and (tm_cmp (op_eqD (u64_of hr)) rv_eq (PM.toB (pm_ix ix_seq rv_ix (bm_var 2 (pv 2)) (PM.toB (pm_int)) (fun _ _ => rfl))) (PM.toB (pm_str)) (by first | exact nobehind _ (by decide) (by decide) | rfl)) (wm_and1 (tm_cmp (op_notInU (u65_of hr)) rv_notin (PM.toB (pm_ix ix_seq rv_ix (bm_var 2 (pv 2)) (PM.toB (pm_int)) (fun _ _ => rfl))) (bm_var 1 (pv 1)) (by first | exact nobehind _ (by decide) (by decide) | rfl))))) (ssm_one (sm_ret (pm_bl))) (ssm_nil)) (ssm_one (sm_set 1 (pm_if (tm_cmp (op_eqD (u64_of hr)) rv_eq (PM.toB (pm_ix ix_seq rv_ix (bm_var 2 (pv 2)) (PM.toB (pm_int)) (fun _ _ => rfl))) (PM.toB (pm_str)) (by first | exact nobehind _ (by decide) (by decide) | rfl)) (pm_op op_addU rv_add (bm_var 1 (pv 1)) (PM.toB (pm_tup (cm_cons (pm_ix ix_seq rv_ix (bm_var 2 (pv 2)) (PM.toB (pm_int)) (fun _ _ => rfl)) (cm_nil))))) (pm_var 1 (pv 1))) S.nd rfl (by first | exact Or.inl rfl | exact Or.inr rfl))))))) (ssm_one (sm_ret (pm_bl)))))
/-! ### is_history_row -/
abbrev s_is_history_row : Stmt := top 45
theorem sc_is_history_row : FnScope ["value", "began", "ended", "kind", "degree", "statements", "answers", "answer"] ["value"] (defScope s_is_history_row) := ⟨rfl, rfl, rfl, by decide +kernel, rfl, by decide +kernel, by decide +kernel⟩
def b_is_history_row : En → Option Fl := mSeq (mIfS (mOr (mNot (mTru (mIsi .tTuple (mVarB 0)))) (mTest (mOp (pEqv true) (mCallB fLen (aCons (mVarB 0) (aNil))) (mC (.int 6))))) (mRet (mC (.bl false))) (mNx)) (mSeq (mAsg (mVar 0) (fTup 6 (fsCons (fName 1) (fsCons (fName 2) (fsCons (fName 3) (fsCons (fName 4) (fsCons (fName 5) (fsCons (fName 6) (fsNil))))))))) (mSeq (mIfS (mOr (mNot (mTru (mCall 3 f_is_number (cCons (mVar 1) (cCons (mC (.int 0)) (cCons (mC d_GREATEST_TIME) (cNil))))))) (mNot (mTru (mCall 3 f_is_number (cCons (mVar 2) (cCons (mOp pAdd (mVarB 1) (mC (.int 1))) (cCons (mC d_GREATEST_TIME) (cNil)))))))) (mRet (mC (.bl false))) (mNx)) (mSeq (mIfS (mOr (mNot (mTru (mIsi .tStr (mVarB 3)))) (mOr (mTest (mOp (pIn true) (mVarB 3) (mC d_KINDS))) (mOr (mNot (mTru (mIsi .tStr (mVarB 4)))) (mTest (mOp (pIn true) (mVarB 4) (mC d_DEGREES)))))) (mRet (mC (.bl false))) (mNx)) (mSeq (mIfS (mOr (mNot (mTru (mCall 1 f_are_inner (cCons (mVar 5) (cNil))))) (mOr (mNot (mTru (mIsi .tTuple (mVarB 6)))) (mTest (mOp (pEqv true) (mCallB fLen (aCons (mVarB 6) (aNil))) (mCallB fLen (aCons (mVarB 5) (aNil))))))) (mRet (mC (.bl false))) (mNx)) (mRet (mCallB fAll (aCons (mComp (mItems (mVar 6)) [7] (fName 7) (fun _ => pure true) (mCall 1 f_is_told_answer (cCons (mVar 7) (cNil)))) (aNil))))))))
def f_is_history_row : List D → Option D := mfOf 8 b_is_history_row
theorem d_is_history_row (G : Gs K mg) (F_is_number : Df P w K mg base 1 "is_number" 3 f_is_number) (F_are_inner : Df P w K mg base 4 "are_inner" 1 f_are_inner) (F_is_told_answer : Df P w K mg base 3 "is_told_answer" 1 f_is_told_answer) : Df P w K mg base 5 "is_history_row" 1 f_is_history_row := by
    have S := sc_is_history_row
    have F_is_number := F_is_number.mono (show 1 ≤ 4 by decide)
    have F_is_told_answer := F_is_told_answer.mono (show 3 ≤ 4 by decide)
    exact df_mk G.d_is_history_row sc_is_history_row rfl (fun _ _ _ _ _ _ us hl => match us, hl with | [_], _ => rfl) fun f cdv A outer s H E hr => ssm_cons (sm_if (WM.toT (wm_or (tm_not (tm_tru (PM.toB (pm_isi .tTuple (by rfl) G.b_isinstance (by decide +kernel) (by rfl) G.b_tuple (by decide +kernel) (bm_var 0 (pv 0)))) (fun _ => rfl))) (wm_or1 (tm_cmp (op_neD (u64_of hr)) rv_ne (PM.toB (pm_callB (call_lenU) rc_len (by rfl) G.b_len (by decide +kernel) (am_cons (bm_var 0 (pv 0)) (am_nil)))) (PM.toB (pm_int)) (by first | exact nobehind _ (by decide) (by decide) | rfl))))) (ssm_one (sm_ret (pm_bl))) (ssm_nil)) (ssm_cons (sm_asg (pm_var 0 (pv 0)) (gm_tup rfl (gsm_cons (gm_name 1 S.nd rfl (by first | exact Or.inl rfl | exact Or.inr rfl)) (gsm_cons (gm_name 2 S.nd rfl (by first | exact Or.inl rfl | exact Or.inr rfl)) (gsm_cons (gm_name 3 S.nd rfl (by first | exact Or.inl rfl | exact Or.inr rfl)) (gsm_cons (gm_name 4 S.nd rfl (by first | exact Or.inl rfl | exact Or.inr rfl)) (gsm_cons (gm_name 5 S.nd rfl (by first | exact Or.inl rfl | exact Or.inr rfl)) (gsm_cons (gm_name 6 S.nd rfl (by first | exact Or.inl rfl | exact Or.inr rfl)) (gsm_nil))))))))) (ssm_cons (sm_if (WM.toT (wm_or (tm_not (tm_tru (PM.toB (pm_call F_is_number hr (by rfl) (cm_cons (pm_var 1 (pv 1)) (cm_cons (pm_int) (cm_cons (pm_g G.c_GREATEST_TIME (by rfl)) (cm_nil)))))) (fun _ => rfl))) (wm_or1 (tm_not (tm_tru (PM.toB (pm_call F_is_number hr (by rfl) (cm_cons (pm_var 2 (pv 2)) (cm_cons (pm_op op_addU rv_add (bm_var 1 (pv 1)) (PM.toB (pm_int))) (cm_cons (pm_g G.c_GREATEST_TIME (by rfl)) (cm_nil)))))) (fun _ => rfl)))))) (ssm_one (sm_ret (pm_bl))) (ssm_nil)) (ssm_cons (sm_if (WM.toT (wm_or (tm_not (tm_tru (PM.toB (pm_isi .tStr (by rfl) G.b_isinstance (by decide +kernel) (by rfl) G.b_str (by decide +kernel) (bm_var 3 (pv 3)))) (fun _ => rfl))) (wm_or (tm_cmp (op_notInU (u65_of hr)) rv_notin (bm_var 3 (pv 3)) (PM.toB (pm_g G.c_KINDS (by rfl))) (by first | exact nobehind _ (by decide) (by decide) | rfl)) (wm_or (tm_not (tm_tru (PM.toB (pm_isi .tStr (by rfl) G.b_isinstance (by decide +kernel) (by rfl) G.b_str (by decide +kernel) (bm_var 4 (pv 4)))) (fun _ => rfl))) (wm_or1 (tm_cmp (op_notInU (u65_of hr)) rv_notin (bm_var 4 (pv 4)) (PM.toB (pm_g G.c_DEGREES (by rfl))) (by first | exact nobehind _ (by decide) (by decide) | rfl))))))) (ssm_one (sm_ret (pm_bl))) (ssm_nil)) (ssm_cons (sm_if (WM.toT (wm_or (tm_not (tm_tru (PM.toB (pm_call F_are_inner hr (by rfl) (cm_cons (pm_var 5 (pv 5)) (cm_nil)))) (fun _ => rfl))) (wm_or (tm_not (tm_tru (PM.toB (pm_isi .tTuple (by rfl) G.b_isinstance (by decide +kernel) (by rfl) G.b_tuple (by decide +kernel) (bm_var 6 (pv 6)))) (fun _ => rfl))) (wm_or1 (tm_cmp (op_neD (u64_of hr)) rv_ne (PM.toB (pm_callB (call_lenU) rc_len (by rfl) G.b_len (by decide +kernel) (am_cons (bm_var 6 (pv 6)) (am_nil)))) (PM.toB (pm_callB (call_lenU) rc_len (by rfl) G.b_len (by decide +kernel) (am_cons (bm_var 5 (pv 5)) (am_nil)))) (by first | exact nobehind _ (by decide) (by decide) | rfl)))))) (ssm_one (sm_ret (pm_bl))) (ssm_nil)) (ssm_one (sm_ret (pm_callB (cr_all rfl) rc_all (by rfl) G.b_all (by decide +kernel) (am_cons (PM.toB (pm_comp (own := [("answer", 7)]) rfl S.nd (im_seq (pm_var 6 (pv 6))) (blkOk_by (own := [("answer", 7)]) (N := ["value", "began", "ended", "kind", "degree", "statements", "answers", "answer"]) (sc := defScope s_is_history_row) (by decide +kernel)) (fun _ _ _ _ _ => gm_name 7 S.nd rfl (by first | exact Or.inl rfl | exact Or.inr rfl)) (fun _ _ _ _ _ => ts_nil) (fun _ _ _ _ _ => pm_call F_is_told_answer hr (by rfl) (cm_cons (pm_var 7 (pv 7)) (cm_nil))) (by decide))) (am_nil)))))))))
/-! ### is_history -/
abbrev s_is_history : Stmt := top 46
theorem sc_is_history : FnScope ["value", "row", "times", "time"] ["value"] (defScope s_is_history) := ⟨rfl, rfl, rfl, by decide +kernel, rfl, by decide +kernel, by decide +kernel⟩
def b_is_history : En → Option Fl := mSeq (mIfS (mOr (mNot (mTru (mIsi .tTuple (mVarB 0)))) (mOr (mTest (mOp pGt (mCallB fLen (aCons (mVarB 0) (aNil))) (mC d_MOST_JUDGED))) (mNot (mTru (mCallB fAll (aCons (mComp (mItems (mVar 0)) [1] (fName 1) (fun _ => pure true) (mCall 1 f_is_history_row (cCons (mVar 1) (cNil)))) (aNil))))))) (mRet (mC (.bl false))) (mNx)) (mSeq (mAsg (mComp2 (mItems (mVar 0)) [1, 3] (fName 1) (fun _ => pure true) (mItems (mSl (mVarB 1) (mNoPart) (mPart (mC (.int 2))))) [3] (fName 3) (fun _ => pure true) (mVar 3)) (fName 2)) (mRet (mOp (pEqv false) (mUn fLenSet (mVarB 2)) (mCallB fLen (aCons (mVarB 2) (aNil))))))
def f_is_history : List D → Option D := mfOf 4 b_is_history
theorem d_is_history (G : Gs K mg) (F_is_history_row : Df P w K mg base 5 "is_history_row" 1 f_is_history_row) : Df P w K mg base 6 "is_history" 1 f_is_history := by
    have S := sc_is_history
    exact df_mk G.d_is_history sc_is_history rfl (fun _ _ _ _ _ _ us hl => match us, hl with | [_], _ => rfl) fun f cdv A outer s H E hr => ssm_cons (sm_if (WM.toT (wm_or (tm_not (tm_tru (PM.toB (pm_isi .tTuple (by rfl) G.b_isinstance (by decide +kernel) (by rfl) G.b_tuple (by decide +kernel) (bm_var 0 (pv 0)))) (fun _ => rfl))) (wm_or (tm_cmp op_gt rv_gt (PM.toB (pm_callB (call_lenU) rc_len (by rfl) G.b_len (by decide +kernel) (am_cons (bm_var 0 (pv 0)) (am_nil)))) (PM.toB (pm_g G.c_MOST_JUDGED (by rfl))) (by first | exact nobehind _ (by decide) (by decide) | rfl)) (wm_or1 (tm_not (tm_tru (PM.toB (pm_callB (cr_all rfl) rc_all (by rfl) G.b_all (by decide +kernel) (am_cons (PM.toB (pm_comp (own := [("row", 1)]) rfl S.nd (im_seq (pm_var 0 (pv 0))) (blkOk_by (own := [("row", 1)]) (N := ["value", "row", "times", "time"]) (sc := defScope s_is_history) (by decide +kernel)) (fun _ _ _ _ _ => gm_name 1 S.nd rfl (by first | exact Or.inl rfl | exact Or.inr rfl)) (fun _ _ _ _ _ => ts_nil) (fun _ _ _ _ _ => pm_call F_is_history_row hr (by rfl) (cm_cons (pm_var 1 (pv 1)) (cm_nil))) (by decide))) (am_nil)))) (fun _ => rfl))))))) (ssm_one (sm_ret (pm_bl))) (ssm_nil)) (ssm_cons (sm_setLc2 2 (own := [("row", 1), ("time", 3)]) (vs1 := [3]) rfl S.nd rfl rfl (sw_true rfl rfl (by rfl) (by rfl)) (im_seq (pm_var 0 (pv 0))) (blkOk_by (own := [("row", 1), ("time", 3)]) (N := ["value", "row", "times", "time"]) (sc := defScope s_is_history) (by decide +kernel)) (by decide) (fun _ _ _ _ _ => gm_name 1 S.nd rfl (by first | exact Or.inl rfl | exact Or.inr rfl)) (fun _ _ _ _ _ => ts_nil) (fun _ _ _ _ _ => im_seq (pm_sl (sl_list.or (sl_tupA.or sl_str)) (bm_var 1 (pv 1)) (om_none) (om_some (pm_int)))) (fun _ _ _ _ _ => gm_name 3 S.nd rfl (by first | exact Or.inl rfl | exact Or.inr rfl)) (fun _ _ _ _ _ => ts_nil) (fun _ _ _ _ _ => pm_var 3 (pv 3)) (by decide) (by decide)) (ssm_one (sm_ret (pm_cmp (op_eqD (u64_of hr)) rv_eq (PM.toB (pm_lenSet rfl (by rfl) G.b_len (by rfl) G.b_set (bm_var 2 (pv 2)))) (PM.toB (pm_callB (call_lenU) rc_len (by rfl) G.b_len (by decide +kernel) (am_cons (bm_var 2 (pv 2)) (am_nil)))) (by first | exact nobehind _ (by decide) (by decide) | rfl)))))
/-! ### rows_by_order -/
abbrev s_rows_by_order : Stmt := top 47
theorem sc_rows_by_order : FnScope ["history", "order", "done", "rows", "j", "later", "key", "statements", "here"] ["history", "order"] (defScope s_rows_by_order) := ⟨rfl, rfl, rfl, by decide +kernel, rfl, by decide +kernel, by decide +kernel⟩
def b_rows_by_order : En → Option Fl := mSeq (mPar 2 3 (nLst (cNil)) (nLst (cCons (mTup (cNil)) (cNil)))) (mSeq (mFor (mItems (mVar 1)) (fName 4) (mIfS (mTest (mOp (pEqv false) (mOp pIx (mOp pIx (mVarB 0) (mVarB 4)) (mC (.int 2))) (mC (.str "done")))) (mSeq (mPar 7 8 (nSh (mOp pIx (mOp pIx (mVarB 0) (mVarB 4)) (mC (.int 4)))) (nSh (mOp pIx (mVarB 3) (mNeg (mC (.int 1)))))) (mSeq (mAsg (mOp pIx (mCall 2 f_plain_answers (cCons (mVar 8) (cCons (mVar 7) (cNil)))) (mC (.int 1))) (fName 5)) (mSeq (mFor (mItems (mCall 1 f_keys_changed (cCons (mVar 7) (cNil)))) (fName 6) (mAsg (mCall 3 f_with_value (cCons (mVar 8) (cCons (mVar 6) (cCons (mCall 2 f_value_in (cCons (mVar 5) (cCons (mVar 6) (cNil)))) (cNil))))) (fName 8))) (mSeq (mApp 2 (mVar 4)) (mApp 3 (mVar 8)))))) (mNx))) (mFrz 3 (mFrz 2 (mRet (mTup (cCons (mVar 2) (cCons (mVar 3) (cNil))))))))
def f_rows_by_order : List D → Option D := mfOf 9 b_rows_by_order
theorem d_rows_by_order (G : Gs K mg) (F_plain_answers : Df P w K mg base 4 "plain_answers" 2 f_plain_answers) (F_keys_changed : Df P w K mg base 1 "keys_changed" 1 f_keys_changed) (F_value_in : Df P w K mg base 1 "value_in" 2 f_value_in) (F_with_value : Df P w K mg base 1 "with_value" 3 f_with_value) : Df P w K mg base 5 "rows_by_order" 2 f_rows_by_order := by
    have S := sc_rows_by_order
    have F_keys_changed := F_keys_changed.mono (show 1 ≤ 4 by decide)
    have F_value_in := F_value_in.mono (show 1 ≤ 4 by decide)
    have F_with_value := F_with_value.mono (show 1 ≤ 4 by decide)
    exact df_mk G.d_rows_by_order sc_rows_by_order rfl (fun _ _ _ _ _ _ us hl => match us, hl with | [_, _], _ => rfl) fun f cdv A outer s H E hr => ssm_cons (sm_par 2 3 rfl S.nd rfl rfl (by decide) rfl rfl (nm_lst (cm_nil)) (nm_lst (cm_cons (pm_tup (cm_nil)) (cm_nil))) rfl) (ssm_cons (sm_for PassesOwn.never rfl (im_seq (pm_var 1 (pv 1))) (gm_name 4 S.nd rfl (by first | exact Or.inl rfl | exact Or.inr rfl)) (ssm_one (sm_if (tm_cmp (op_eqD (u64_of hr)) rv_eq (PM.toB (pm_ix ix_seq rv_ix (PM.toB (pm_ix ix_seq rv_ix (bm_var 0 (pv 0)) (bm_var 4 (pv 4)) (fun _ _ => rfl))) (PM.toB (pm_int)) (fun _ _ => rfl))) (PM.toB (pm_str)) (by first | exact nobehind _ (by decide) (by decide) | rfl)) (ssm_cons (sm_par 7 8 rfl S.nd rfl rfl (by decide) rfl rfl (nm_sh (pm_ix ix_seq rv_ix (PM.toB (pm_ix ix_seq rv_ix (bm_var 0 (pv 0)) (bm_var 4 (pv 4)) (fun _ _ => rfl))) (PM.toB (pm_int)) (fun _ _ => rfl))) (nm_sh (pm_ix ix_seq rv_ix (bm_var 3 (pv 3)) (PM.toB (pm_neg pm_int)) (fun _ _ => rfl))) rfl) (ssm_cons (sm_set 5 (pm_ix ix_seq rv_ix (PM.toB (pm_call F_plain_answers hr (by rfl) (cm_cons (pm_var 8 (pv 8)) (cm_cons (pm_var 7 (pv 7)) (cm_nil))))) (PM.toB (pm_int)) (fun _ _ => rfl)) S.nd rfl (by first | exact Or.inl rfl | exact Or.inr rfl)) (ssm_cons (sm_for PassesOwn.never rfl (im_seq (pm_call F_keys_changed hr (by rfl) (cm_cons (pm_var 7 (pv 7)) (cm_nil)))) (gm_name 6 S.nd rfl (by first | exact Or.inl rfl | exact Or.inr rfl)) (ssm_one (sm_set 8 (pm_call F_with_value hr (by rfl) (cm_cons (pm_var 8 (pv 8)) (cm_cons (pm_var 6 (pv 6)) (cm_cons (pm_call F_value_in hr (by rfl) (cm_cons (pm_var 5 (pv 5)) (cm_cons (pm_var 6 (pv 6)) (cm_nil)))) (cm_nil))))) S.nd rfl (by first | exact Or.inl rfl | exact Or.inr rfl)))) (ssm_cons (sm_app 2 (pv 2) (pm_var 4 (pv 4))) (ssm_one (sm_app 3 (pv 3) (pm_var 8 (pv 8)))))))) (ssm_nil)))) (ssm_one (sm_frz 3 (sm_frz 2 (sm_ret (pm_tup (cm_cons (pm_var 2 (pv 2)) (cm_cons (pm_var 3 (pv 3)) (cm_nil)))))))))
/-! ### fits_serial -/
abbrev s_fits_serial : Stmt := top 48
theorem sc_fits_serial : FnScope ["row", "rows"] ["row", "rows"] (defScope s_fits_serial) := ⟨rfl, rfl, rfl, by decide +kernel, rfl, by decide +kernel, by decide +kernel⟩
def b_fits_serial : En → Option Fl := mRet (mCall 2 f_same_answers (cCons (mOp pIx (mCall 2 f_plain_answers (cCons (mVar 1) (cCons (mOp pIx (mVarB 0) (mC (.int 4))) (cNil)))) (mC (.int 0))) (cCons (mOp pIx (mVarB 0) (mC (.int 5))) (cNil))))
def f_fits_serial : List D → Option D := mfOf 2 b_fits_serial
theorem d_fits_serial (G : Gs K mg) (F_plain_answers : Df P w K mg base 4 "plain_answers" 2 f_plain_answers) (F_same_answers : Df P w K mg base 4 "same_answers" 2 f_same_answers) : Df P w K mg base 5 "fits_serial" 2 f_fits_serial := by
    have S := sc_fits_serial
    exact df_mk G.d_fits_serial sc_fits_serial rfl (fun _ _ _ _ _ _ us hl => match us, hl with | [_, _], _ => rfl) fun f cdv A outer s H E hr => ssm_one (sm_ret (pm_call F_same_answers hr (by rfl) (cm_cons (pm_ix ix_seq rv_ix (PM.toB (pm_call F_plain_answers hr (by rfl) (cm_cons (pm_var 1 (pv 1)) (cm_cons (pm_ix ix_seq rv_ix (bm_var 0 (pv 0)) (PM.toB (pm_int)) (fun _ _ => rfl)) (cm_nil))))) (PM.toB (pm_int)) (fun _ _ => rfl)) (cm_cons (pm_ix ix_seq rv_ix (bm_var 0 (pv 0)) (PM.toB (pm_int)) (fun _ _ => rfl)) (cm_nil)))))
/-! ### can_follow -/
abbrev s_can_follow : Stmt := top 51
theorem sc_can_follow : FnScope ["history", "order", "j", "row", "k", "done", "rows"] ["history", "order", "j"] (defScope s_can_follow) := ⟨rfl, rfl, rfl, by decide +kernel, rfl, by decide +kernel, by decide +kernel⟩
def b_can_follow : En → Option Fl := mSeq (mAsg (mOp pIx (mVarB 0) (mVarB 2)) (fName 3)) (mSeq (mIfS (mOr (mTest (mOp (pIn false) (mVarB 2) (mVarB 1))) (mTru (mCallB fAny (aCons (mComp (mRng rng1 (aCons (mCallB fLen (aCons (mVarB 0) (aNil))) (aNil))) [4] (fName 4) (fun _ => pure true) (mAndV (mOp pLt (mOp pIx (mOp pIx (mVarB 0) (mVarB 4)) (mC (.int 1))) (mOp pIx (mVarB 3) (mC (.int 0)))) (mOp (pIn true) (mVarB 4) (mVarB 1)))) (aNil))))) (mRet (mC (.bl false))) (mNx)) (mSeq (mAsg (mCall 2 f_rows_by_order (cCons (mVar 0) (cCons (mVar 1) (cNil)))) (fTup 2 (fsCons (fName 5) (fsCons (fName 6) (fsNil))))) (mRet (mIf (mTest (mOp (pEqv false) (mOp pIx (mVarB 3) (mC (.int 3))) (mC (.str "serial")))) (mCall 2 f_fits_serial (cCons (mVar 3) (cCons (mOp pIx (mVarB 6) (mNeg (mC (.int 1)))) (cNil)))) (mNo)))))
def f_can_follow : List D → Option D := mfOf 7 b_can_follow
theorem d_can_follow (G : Gs K mg) (F_rows_by_order : Df P w K mg base 5 "rows_by_order" 2 f_rows_by_order) (F_fits_serial : Df P w K mg base 5 "fits_serial" 2 f_fits_serial) : Df P w K mg base 6 "can_follow" 3 f_can_follow := by
    have S := sc_can_follow
    exact df_mk G.d_can_follow sc_can_follow rfl (fun _ _ _ _ _ _ us hl => match us, hl with | [_, _, _], _ => rfl) fun f cdv A outer s H E hr => ssm_cons (sm_set 3 (pm_ix ix_seq rv_ix (bm_var 0 (pv 0)) (bm_var 2 (pv 2)) (fun _ _ => rfl)) S.nd rfl (by first | exact Or.inl rfl | exact Or.inr rfl)) (ssm_cons (sm_if (WM.toT (wm_or (tm_cmp (op_inU (u65_of hr)) rv_in (bm_var 2 (pv 2)) (bm_var 1 (pv 1)) (by first | exact nobehind _ (by decide) (by decide) | rfl)) (wm_or1 (tm_tru (PM.toB (pm_callB (cr_any rfl) rc_any (by rfl) G.b_any (by decide +kernel) (am_cons (PM.toB (pm_comp (own := [("k", 4)]) rfl S.nd (im_range1 (by rfl) G.b_range (am_cons (PM.toB (pm_callB (call_lenU) rc_len (by rfl) G.b_len (by decide +kernel) (am_cons (bm_var 0 (pv 0)) (am_nil)))) (am_nil))) (blkOk_by (own := [("k", 4)]) (N := ["history", "order", "j", "row", "k", "done", "rows"]) (sc := defScope s_can_follow) (by decide +kernel)) (fun _ _ _ _ _ => gm_name 4 S.nd rfl (by first | exact Or.inl rfl | exact Or.inr rfl)) (fun _ _ _ _ _ => ts_nil) (fun _ _ _ _ _ => pm_and (pm_cmp (op_ltU (u0_of hr)) rv_lt (PM.toB (pm_ix ix_seq rv_ix (PM.toB (pm_ix ix_seq rv_ix (bm_var 0 (pv 0)) (bm_var 4 (pv 4)) (fun _ _ => rfl))) (PM.toB (pm_int)) (fun _ _ => rfl))) (PM.toB (pm_ix ix_seq rv_ix (bm_var 3 (pv 3)) (PM.toB (pm_int)) (fun _ _ => rfl))) (by first | exact nobehind _ (by decide) (by decide) | rfl)) (pm_one (pm_cmp (op_notInU (u65_of hr)) rv_notin (bm_var 4 (pv 4)) (bm_var 1 (pv 1)) (by first | exact nobehind _ (by decide) (by decide) | rfl)))) (by decide))) (am_nil)))) (fun _ => rfl))))) (ssm_one (sm_ret (pm_bl))) (ssm_nil)) (ssm_cons (sm_asg (pm_call F_rows_by_order hr (by rfl) (cm_cons (pm_var 0 (pv 0)) (cm_cons (pm_var 1 (pv 1)) (cm_nil)))) (gm_tup rfl (gsm_cons (gm_name 5 S.nd rfl (by first | exact Or.inl rfl | exact Or.inr rfl)) (gsm_cons (gm_name 6 S.nd rfl (by first | exact Or.inl rfl | exact Or.inr rfl)) (gsm_nil))))) (ssm_one (sm_ret (pm_if (tm_cmp (op_eqD (u64_of hr)) rv_eq (PM.toB (pm_ix ix_seq rv_ix (bm_var 3 (pv 3)) (PM.toB (pm_int)) (fun _ _ => rfl))) (PM.toB (pm_str)) (by first | exact nobehind _ (by decide) (by decide) | rfl)) (pm_call F_fits_serial hr (by rfl) (cm_cons (pm_var 3 (pv 3)) (cm_cons (pm_ix ix_seq rv_ix (bm_var 6 (pv 6)) (PM.toB (pm_neg pm_int)) (fun _ _ => rfl)) (cm_nil)))) (pm_no))))))
/-! ### followers -/
abbrev s_followers : Stmt := top 52
theorem sc_followers : FnScope ["history", "order", "j"] ["history", "order"] (defScope s_followers) := ⟨rfl, rfl, rfl, by decide +kernel, rfl, by decide +kernel, by decide +kernel⟩
def b_followers : En → Option Fl := mRet (mComp (mRng rng1 (aCons (mCallB fLen (aCons (mVarB 0) (aNil))) (aNil))) [2] (fName 2) (mTru (mCall 3 f_can_follow (cCons (mVar 0) (cCons (mVar 1) (cCons (mVar 2) (cNil)))))) (mOp pAdd (mVarB 1) (mTup (cCons (mVar 2) (cNil)))))
def f_followers : List D → Option D := mfOf 3 b_followers
theorem d_followers (G : Gs K mg) (F_can_follow : Df P w K mg base 6 "can_follow" 3 f_can_follow) : Df P w K mg base 7 "followers" 2 f_followers := by
    have S := sc_followers
    exact df_mk G.d_followers sc_followers rfl (fun _ _ _ _ _ _ us hl => match us, hl with | [_, _], _ => rfl) fun f cdv A outer s H E hr => ssm_one (sm_ret (pm_comp (own := [("j", 2)]) rfl S.nd (im_range1 (by rfl) G.b_range (am_cons (PM.toB (pm_callB (call_lenU) rc_len (by rfl) G.b_len (by decide +kernel) (am_cons (bm_var 0 (pv 0)) (am_nil)))) (am_nil))) (blkOk_by (own := [("j", 2)]) (N := ["history", "order", "j"]) (sc := defScope s_followers) (by decide +kernel)) (fun _ _ _ _ _ => gm_name 2 S.nd rfl (by first | exact Or.inl rfl | exact Or.inr rfl)) (fun _ _ _ _ _ => ts_one (tm_tru (PM.toB (pm_call F_can_follow hr (by rfl) (cm_cons (pm_var 0 (pv 0)) (cm_cons (pm_var 1 (pv 1)) (cm_cons (pm_var 2 (pv 2)) (cm_nil)))))) (fun _ => rfl))) (fun _ _ _ _ _ => pm_op op_addU rv_add (bm_var 1 (pv 1)) (PM.toB (pm_tup (cm_cons (pm_var 2 (pv 2)) (cm_nil))))) (by decide)))
/-! ### is_some_order -/
abbrev s_is_some_order : Stmt := top 53
theorem sc_is_some_order : FnScope ["history", "value", "j"] ["history", "value"] (defScope s_is_some_order) := ⟨rfl, rfl, rfl, by decide +kernel, rfl, by decide +kernel, by decide +kernel⟩
def b_is_some_order : En → Option Fl := mSeq (mIfS (mOr (mNot (mTru (mIsi .tTuple (mVarB 1)))) (mNot (mTru (mCallB fAll (aCons (mComp (mItems (mVar 1)) [2] (fName 2) (fun _ => pure true) (mCall 3 f_is_number (cCons (mVar 2) (cCons (mC (.int 0)) (cCons (mOp pSub (mCallB fLen (aCons (mVarB 0) (aNil))) (mC (.int 1))) (cNil)))))) (aNil)))))) (mRet (mC (.bl false))) (mNx)) (mRet (mOp (pEqv false) (mUn fLenSet (mVarB 1)) (mCallB fLen (aCons (mVarB 1) (aNil)))))
def f_is_some_order : List D → Option D := mfOf 3 b_is_some_order
theorem d_is_some_order (G : Gs K mg) (F_is_number : Df P w K mg base 1 "is_number" 3 f_is_number) : Df P w K mg base 2 "is_some_order" 2 f_is_some_order := by
    have S := sc_is_some_order
    exact df_mk G.d_is_some_order sc_is_some_order rfl (fun _ _ _ _ _ _ us hl => match us, hl with | [_, _], _ => rfl) fun f cdv A outer s H E hr => ssm_cons (sm_if (WM.toT (wm_or (tm_not (tm_tru (PM.toB (pm_isi .tTuple (by rfl) G.b_isinstance (by decide +kernel) (by rfl) G.b_tuple (by decide +kernel) (bm_var 1 (pv 1)))) (fun _ => rfl))) (wm_or1 (tm_not (tm_tru (PM.toB (pm_callB (cr_all rfl) rc_all (by rfl) G.b_all (by decide +kernel) (am_cons (PM.toB (pm_comp (own := [("j", 2)]) rfl S.nd (im_seq (pm_var 1 (pv 1))) (blkOk_by (own := [("j", 2)]) (N := ["history", "value", "j"]) (sc := defScope s_is_some_order) (by decide +kernel)) (fun _ _ _ _ _ => gm_name 2 S.nd rfl (by first | exact Or.inl rfl | exact Or.inr rfl)) (fun _ _ _ _ _ => ts_nil) (fun _ _ _ _ _ => pm_call F_is_number hr (by rfl) (cm_cons (pm_var 2 (pv 2)) (cm_cons (pm_int) (cm_cons (pm_op op_sub rv_sub (PM.toB (pm_callB (call_lenU) rc_len (by rfl) G.b_len (by decide +kernel) (am_cons (bm_var 0 (pv 0)) (am_nil)))) (PM.toB (pm_int))) (cm_nil))))) (by decide))) (am_nil)))) (fun _ => rfl)))))) (ssm_one (sm_ret (pm_bl))) (ssm_nil)) (ssm_one (sm_ret (pm_cmp (op_eqD (u64_of hr)) rv_eq (PM.toB (pm_lenSet rfl (by rfl) G.b_len (by rfl) G.b_set (bm_var 1 (pv 1)))) (PM.toB (pm_callB (call_lenU) rc_len (by rfl) G.b_len (by decide +kernel) (am_cons (bm_var 1 (pv 1)) (am_nil)))) (by first | exact nobehind _ (by decide) (by decide) | rfl))))
/-! ### is_explaining -/
abbrev s_is_explaining : Stmt := top 54
theorem sc_is_explaining : FnScope ["history", "value", "k", "j"] ["history", "value"] (defScope s_is_explaining) := ⟨rfl, rfl, rfl, by decide +kernel, rfl, by decide +kernel, by decide +kernel⟩
def b_is_explaining : En → Option Fl := mSeq (mIfS (mOr (mNot (mTru (mCall 2 f_is_some_order (cCons (mVar 0) (cCons (mVar 1) (cNil)))))) (mTest (mOp pLt (mCallB fLen (aCons (mVarB 1) (aNil))) (mCallB fLen (aCons (mVarB 0) (aNil)))))) (mRet (mC (.bl false))) (mNx)) (mRet (mCallB fAll (aCons (mComp (mEnum (cCons (mVar 1) (cNil))) [2, 3] (fTup 2 (fsCons (fName 2) (fsCons (fName 3) (fsNil)))) (fun _ => pure true) (mCall 3 f_can_follow (cCons (mVar 0) (cCons (mSl (mVarB 1) (mNoPart) (mPart (mVar 2))) (cCons (mVar 3) (cNil)))))) (aNil))))
def f_is_explaining : List D → Option D := mfOf 4 b_is_explaining
theorem d_is_explaining (G : Gs K mg) (F_is_some_order : Df P w K mg base 2 "is_some_order" 2 f_is_some_order) (F_can_follow : Df P w K mg base 6 "can_follow" 3 f_can_follow) : Df P w K mg base 7 "is_explaining" 2 f_is_explaining := by
    have S := sc_is_explaining
    have F_is_some_order := F_is_some_order.mono (show 2 ≤ 6 by decide)
    exact df_mk G.d_is_explaining sc_is_explaining rfl (fun _ _ _ _ _ _ us hl => match us, hl with | [_, _], _ => rfl) fun f cdv A outer s H E hr => ssm_cons (sm_if (WM.toT (wm_or (tm_not (tm_tru (PM.toB (pm_call F_is_some_order hr (by rfl) (cm_cons (pm_var 0 (pv 0)) (cm_cons (pm_var 1 (pv 1)) (cm_nil))))) (fun _ => rfl))) (wm_or1 (tm_cmp (op_ltU (u0_of hr)) rv_lt (PM.toB (pm_callB (call_lenU) rc_len (by rfl) G.b_len (by decide +kernel) (am_cons (bm_var 1 (pv 1)) (am_nil)))) (PM.toB (pm_callB (call_lenU) rc_len (by rfl) G.b_len (by decide +kernel) (am_cons (bm_var 0 (pv 0)) (am_nil)))) (by first | exact nobehind _ (by decide) (by decide) | rfl))))) (ssm_one (sm_ret (pm_bl))) (ssm_nil)) (ssm_one (sm_ret (pm_callB (cr_all rfl) rc_all (by rfl) G.b_all (by decide +kernel) (am_cons (PM.toB (pm_comp (own := [("k", 2), ("j", 3)]) rfl S.nd (im_enum (by rfl) G.b_enumerate (cm_cons (pm_var 1 (pv 1)) (cm_nil))) (blkOk_by (own := [("k", 2), ("j", 3)]) (N := ["history", "value", "k", "j"]) (sc := defScope s_is_explaining) (by decide +kernel)) (fun _ _ _ _ _ => gm_tup rfl (gsm_cons (gm_name 2 S.nd rfl (by first | exact Or.inl rfl | exact Or.inr rfl)) (gsm_cons (gm_name 3 S.nd rfl (by first | exact Or.inl rfl | exact Or.inr rfl)) (gsm_nil)))) (fun _ _ _ _ _ => ts_nil) (fun _ _ _ _ _ => pm_call F_can_follow hr (by rfl) (cm_cons (pm_var 0 (pv 0)) (cm_cons (pm_sl (sl_list.or (sl_tupA.or sl_str)) (bm_var 1 (pv 1)) (om_none) (om_some (pm_var 2 (pv 2)))) (cm_cons (pm_var 3 (pv 3)) (cm_nil))))) (by decide))) (am_nil)))))
/-! ### is_history_paper -/
abbrev s_is_history_paper : Stmt := top 55
theorem sc_is_history_paper : FnScope ["history", "value", "order", "later"] ["history", "value"] (defScope s_is_history_paper) := ⟨rfl, rfl, rfl, by decide +kernel, rfl, by decide +kernel, by decide +kernel⟩
def b_is_history_paper : En → Option Fl := mSeq (mIfS (mOr (mNot (mTru (mIsi .tTuple (mVarB 1)))) (mNot (mTru (mCallB fAll (aCons (mComp (mItems (mVar 1)) [2] (fName 2) (fun _ => pure true) (mCall 2 f_is_some_order (cCons (mVar 0) (cCons (mVar 2) (cNil))))) (aNil)))))) (mRet (mC (.bl false))) (mNx)) (mSeq (mIfS (mOr (mTest (mOp (pIn true) (mTup (cNil)) (mVarB 1))) (mOr (mNot (mTru (mCall 1 f_is_ascending (cCons (mVar 1) (cNil))))) (mTru (mCallB fAny (aCons (mComp (mItems (mVar 1)) [2] (fName 2) (fun _ => pure true) (mOp (pEqv false) (mCallB fLen (aCons (mVarB 2) (aNil))) (mCallB fLen (aCons (mVarB 0) (aNil))))) (aNil)))))) (mRet (mC (.bl false))) (mNx)) (mRet (mCallB fAll (aCons (mComp2 (mItems (mVar 1)) [2, 3] (fName 2) (fun _ => pure true) (mItems (mCall 2 f_followers (cCons (mVar 0) (cCons (mVar 2) (cNil))))) [3] (fName 3) (fun _ => pure true) (mOp (pIn false) (mVarB 3) (mVarB 1))) (aNil)))))
def f_is_history_paper : List D → Option D := mfOf 4 b_is_history_paper
theorem d_is_history_paper (G : Gs K mg) (F_is_some_order : Df P w K mg base 2 "is_some_order" 2 f_is_some_order) (F_is_ascending : Df P w K mg base 1 "is_ascending" 1 f_is_ascending) (F_followers : Df P w K mg base 7 "followers" 2 f_followers) : Df P w K mg base 8 "is_history_paper" 2 f_is_history_paper := by
    have S := sc_is_history_paper
    have F_is_some_order := F_is_some_order.mono (show 2 ≤ 7 by decide)
    have F_is_ascending := F_is_ascending.mono (show 1 ≤ 7 by decide)
    exact df_mk G.d_is_history_paper sc_is_history_paper rfl (fun _ _ _ _ _ _ us hl => match us, hl with | [_, _], _ => rfl) fun f cdv A outer s H E hr => ssm_cons (sm_if (WM.toT (wm_or (tm_not (tm_tru (PM.toB (pm_isi .tTuple (by rfl) G.b_isinstance (by decide +kernel) (by rfl) G.b_tuple (by decide +kernel) (bm_var 1 (pv 1)))) (fun _ => rfl))) (wm_or1 (tm_not (tm_tru (PM.toB (pm_callB (cr_all rfl) rc_all (by rfl) G.b_all (by decide +kernel) (am_cons (PM.toB (pm_comp (own := [("order", 2)]) rfl S.nd (im_seq (pm_var 1 (pv 1))) (blkOk_by (own := [("order", 2)]) (N := ["history", "value", "order", "later"]) (sc := defScope s_is_history_paper) (by decide +kernel)) (fun _ _ _ _ _ => gm_name 2 S.nd rfl (by first | exact Or.inl rfl | exact Or.inr rfl)) (fun _ _ _ _ _ => ts_nil) (fun _ _ _ _ _ => pm_call F_is_some_order hr (by rfl) (cm_cons (pm_var 0 (pv 0)) (cm_cons (pm_var 2 (pv 2)) (cm_nil)))) (by decide))) (am_nil)))) (fun _ => rfl)))))) (ssm_one (sm_ret (pm_bl))) (ssm_nil)) (ssm_cons (sm_if (WM.toT (wm_or (tm_cmp (op_notInU (u65_of hr)) rv_notin (PM.toB (pm_tup (cm_nil))) (bm_var 1 (pv 1)) (by first | exact nobehind _ (by decide) (by decide) | rfl)) (wm_or (tm_not (tm_tru (PM.toB (pm_call F_is_ascending hr (by rfl) (cm_cons (pm_var 1 (pv 1)) (cm_nil)))) (fun _ => rfl))) (wm_or1 (tm_tru (PM.toB (pm_callB (cr_any rfl) rc_any (by rfl) G.b_any (by decide +kernel) (am_cons (PM.toB (pm_comp (own := [("order", 2)]) rfl S.nd (im_seq (pm_var 1 (pv 1))) (blkOk_by (own := [("order", 2)]) (N := ["history", "value", "order", "later"]) (sc := defScope s_is_history_paper) (by decide +kernel)) (fun _ _ _ _ _ => gm_name 2 S.nd rfl (by first | exact Or.inl rfl | exact Or.inr rfl)) (fun _ _ _ _ _ => ts_nil) (fun _ _ _ _ _ => pm_cmp (op_eqD (u64_of hr)) rv_eq (PM.toB (pm_callB (call_lenU) rc_len (by rfl) G.b_len (by decide +kernel) (am_cons (bm_var 2 (pv 2)) (am_nil)))) (PM.toB (pm_callB (call_lenU) rc_len (by rfl) G.b_len (by decide +kernel) (am_cons (bm_var 0 (pv 0)) (am_nil)))) (by first | exact nobehind _ (by decide) (by decide) | rfl)) (by decide))) (am_nil)))) (fun _ => rfl)))))) (ssm_one (sm_ret (pm_bl))) (ssm_nil)) (ssm_one (sm_ret (pm_callB (cr_all rfl) rc_all (by rfl) G.b_all (by decide +kernel) (am_cons (PM.toB (pm_comp2 (own := [("order", 2), ("later", 3)]) (vs1 := [3]) rfl S.nd (im_seq (pm_var 1 (pv 1))) (blkOk_by (own := [("order", 2), ("later", 3)]) (N := ["history", "value", "order", "later"]) (sc := defScope s_is_history_paper) (by decide +kernel)) (by decide) (fun _ _ _ _ _ => gm_name 2 S.nd rfl (by first | exact Or.inl rfl | exact Or.inr rfl)) (fun _ _ _ _ _ => ts_nil) (fun _ _ _ _ _ => im_seq (pm_call F_followers hr (by rfl) (cm_cons (pm_var 0 (pv 0)) (cm_cons (pm_var 2 (pv 2)) (cm_nil))))) (fun _ _ _ _ _ => gm_name 3 S.nd rfl (by first | exact Or.inl rfl | exact Or.inr rfl)) (fun _ _ _ _ _ => ts_nil) (fun _ _ _ _ _ => pm_cmp (op_inU (u65_of hr)) rv_in (bm_var 3 (pv 3)) (bm_var 1 (pv 1)) (by first | exact nobehind _ (by decide) (by decide) | rfl)) (by decide) (by decide))) (am_nil))))))
/-! ### is_course -/
abbrev s_is_course : Stmt := top 59
theorem sc_is_course : FnScope ["value", "page"] ["value"] (defScope s_is_course) := ⟨rfl, rfl, rfl, by decide +kernel, rfl, by decide +kernel, by decide +kernel⟩
def b_is_course : En → Option Fl := mSeq (mIfS (mOr (mNot (mTru (mIsi .tTuple (mVarB 0)))) (mTest (mOp pGt (mCallB fLen (aCons (mVarB 0) (aNil))) (mC d_MOST_COURSE)))) (mRet (mC (.bl false))) (mNx)) (mRet (mCallB fAll (aCons (mComp (mItems (mVar 0)) [1] (fName 1) (fun _ => pure true) (mCall 3 f_is_number (cCons (mVar 1) (cCons (mC (.int 1)) (cCons (mC d_GREATEST_PAGE_NUMBER) (cNil)))))) (aNil))))
def f_is_course : List D → Option D := mfOf 2 b_is_course
theorem d_is_course (G : Gs K mg) (F_is_number : Df P w K mg base 1 "is_number" 3 f_is_number) : Df P w K mg base 2 "is_course" 1 f_is_course := by
    have S := sc_is_course
    exact df_mk G.d_is_course sc_is_course rfl (fun _ _ _ _ _ _ us hl => match us, hl with | [_], _ => rfl) fun f cdv A outer s H E hr => ssm_cons (sm_if (WM.toT (wm_or (tm_not (tm_tru (PM.toB (pm_isi .tTuple (by rfl) G.b_isinstance (by decide +kernel) (by rfl) G.b_tuple (by decide +kernel) (bm_var 0 (pv 0)))) (fun _ => rfl))) (wm_or1 (tm_cmp op_gt rv_gt (PM.toB (pm_callB (call_lenU) rc_len (by rfl) G.b_len (by decide +kernel) (am_cons (bm_var 0 (pv 0)) (am_nil)))) (PM.toB (pm_g G.c_MOST_COURSE (by rfl))) (by first | exact nobehind _ (by decide) (by decide) | rfl))))) (ssm_one (sm_ret (pm_bl))) (ssm_nil)) (ssm_one (sm_ret (pm_callB (cr_all rfl) rc_all (by rfl) G.b_all (by decide +kernel) (am_cons (PM.toB (pm_comp (own := [("page", 1)]) rfl S.nd (im_seq (pm_var 0 (pv 0))) (blkOk_by (own := [("page", 1)]) (N := ["value", "page"]) (sc := defScope s_is_course) (by decide +kernel)) (fun _ _ _ _ _ => gm_name 1 S.nd rfl (by first | exact Or.inl rfl | exact Or.inr rfl)) (fun _ _ _ _ _ => ts_nil) (fun _ _ _ _ _ => pm_call F_is_number hr (by rfl) (cm_cons (pm_var 1 (pv 1)) (cm_cons (pm_int) (cm_cons (pm_g G.c_GREATEST_PAGE_NUMBER (by rfl)) (cm_nil))))) (by decide))) (am_nil)))))
/-! ### spans_of -/
abbrev s_spans_of : Stmt := top 60
theorem sc_spans_of : FnScope ["course", "last", "found", "k", "page"] ["course"] (defScope s_spans_of) := ⟨rfl, rfl, rfl, by decide +kernel, rfl, by decide +kernel, by decide +kernel⟩
def b_spans_of : En → Option Fl := mSeq (mPar 1 2 ((fun _ => pure (.od [] []))) (nLst (cNil))) (mSeq (mFor (mEnum (cCons (mVar 0) (cNil))) (fTup 2 (fsCons (fName 3) (fsCons (fName 4) (fsNil)))) (mSeq (mIfS (mTest (mOp (pDin false) (mVarB 4) (mVarB 1))) (mApp 2 (mTup (cCons (mOp pDix (mVarB 1) (mVarB 4)) (cCons (mVar 3) (cNil))))) (mNx)) (mDput 1 (mVar 3) (mVar 4)))) (mFrz 2 (mRet (mVar 2))))
def f_spans_of : List D → Option D := mfOf 5 b_spans_of
theorem d_spans_of (G : Gs K mg)  : Df P w K mg base 1 "spans_of" 1 f_spans_of := by
    have S := sc_spans_of
    exact df_mk G.d_spans_of sc_spans_of rfl (fun _ _ _ _ _ _ us hl => match us, hl with | [_], _ => rfl) fun f cdv A outer s H E hr => ssm_cons (sm_par 1 2 rfl S.nd rfl rfl (by decide) rfl rfl (nm_dnew) (nm_lst (cm_nil)) rfl) (ssm_cons (sm_for PassesOwn.never rfl (im_enum (by rfl) G.b_enumerate (cm_cons (pm_var 0 (pv 0)) (cm_nil))) (gm_tup rfl (gsm_cons (gm_name 3 S.nd rfl (by first | exact Or.inl rfl | exact Or.inr rfl)) (gsm_cons (gm_name 4 S.nd rfl (by first | exact Or.inl rfl | exact Or.inr rfl)) (gsm_nil)))) (ssm_cons (sm_if (tm_din (u1_of hr) (bm_var 4 (pv 4)) (bm_var 1 (pv 1))) (ssm_one (sm_app 2 (pv 2) (pm_tup (cm_cons (pm_dix (u1_of hr) (bm_var 1 (pv 1)) (bm_var 4 (pv 4)) (fun _ _ => rfl)) (cm_cons (pm_var 3 (pv 3)) (cm_nil)))))) (ssm_nil)) (ssm_one (sm_dput 1 (u1_of hr) (pv 1) (pm_var 4 (pv 4)) (pm_var 3 (pv 3)))))) (ssm_one (sm_frz 2 (sm_ret (pm_var 2 (pv 2))))))
/-! ### bare_spans -/
abbrev s_bare_spans : Stmt := top 61
theorem sc_bare_spans : FnScope ["spans", "begin", "end", "k", "j"] ["spans", "begin", "end"] (defScope s_bare_spans) := ⟨rfl, rfl, rfl, by decide +kernel, rfl, by decide +kernel, by decide +kernel⟩
def b_bare_spans : En → Option Fl := mRet (mCallB fLen (aCons (mComp (mItems (mVar 0)) [3, 4] (fTup 2 (fsCons (fName 3) (fsCons (fName 4) (fsNil)))) (mAnd (mTest (mOp pLe (mVarB 1) (mVarB 3))) (mTest (mOp pLe (mVarB 4) (mVarB 2)))) (mC (.int 1))) (aNil)))
def f_bare_spans : List D → Option D := mfOf 5 b_bare_spans
theorem d_bare_spans (G : Gs K mg)  : Df P w K mg base 1 "bare_spans" 3 f_bare_spans := by
    have S := sc_bare_spans
    exact df_mk G.d_bare_spans sc_bare_spans rfl (fun _ _ _ _ _ _ us hl => match us, hl with | [_, _, _], _ => rfl) fun f cdv A outer s H E hr => ssm_one (sm_ret (pm_callB (call_lenU) rc_len (by rfl) G.b_len (by decide +kernel) (am_cons (PM.toB (pm_comp (own := [("k", 3), ("j", 4)]) rfl S.nd (im_seq (pm_var 0 (pv 0))) (blkOk_by (own := [("k", 3), ("j", 4)]) (N := ["spans", "begin", "end", "k", "j"]) (sc := defScope s_bare_spans) (by decide +kernel)) (fun _ _ _ _ _ => gm_tup rfl (gsm_cons (gm_name 3 S.nd rfl (by first | exact Or.inl rfl | exact Or.inr rfl)) (gsm_cons (gm_name 4 S.nd rfl (by first | exact Or.inl rfl | exact Or.inr rfl)) (gsm_nil)))) (fun _ _ _ _ _ => ts_one (WM.toT (wm_and (tm_cmp op_le rv_le (bm_var 1 (pv 1)) (bm_var 3 (pv 3)) (by first | exact nobehind _ (by decide) (by decide) | rfl)) (wm_and1 (tm_cmp op_le rv_le (bm_var 4 (pv 4)) (bm_var 2 (pv 2)) (by first | exact nobehind _ (by decide) (by decide) | rfl)))))) (fun _ _ _ _ _ => pm_int) (by decide))) (am_nil))))
/-! ### most_hits -/
abbrev s_most_hits : Stmt := top 62
theorem sc_most_hits : FnScope ["frames", "course", "places", "ends", "spans", "a", "b"] ["frames", "course", "places"] (defScope s_most_hits) := ⟨rfl, rfl, rfl, by decide +kernel, rfl, by decide +kernel, by decide +kernel⟩
def b_most_hits : En → Option Fl := mSeq (mAsg (mOp pAdd (mOp pAdd (mLst (cCons (mC (.int 0)) (cNil))) (mCallB fList (aCons (mVarB 2) (aNil)))) (mLst (cCons (mCallB fLen (aCons (mVarB 1) (aNil))) (cNil)))) (fName 3)) (mSeq (mAsg (mCall 1 f_spans_of (cCons (mVar 1) (cNil))) (fName 4)) (mRet (mOp pAdd (mOp pMul (mOp pSub (mVarB 0) (mC (.int 1))) (mCallB fLen (aCons (mVarB 2) (aNil)))) (mCallB fSum (aCons (mComp (mZip (cCons (mVar 3) (cCons (mSl (mVarB 3) (mPart (mC (.int 1))) (mNoPart)) (cNil)))) [5, 6] (fTup 2 (fsCons (fName 5) (fsCons (fName 6) (fsNil)))) (fun _ => pure true) (mCall 3 f_bare_spans (cCons (mVar 4) (cCons (mVar 5) (cCons (mVar 6) (cNil)))))) (aNil))))))
def f_most_hits : List D → Option D := mfOf 7 b_most_hits
theorem d_most_hits (G : Gs K mg) (F_spans_of : Df P w K mg base 1 "spans_of" 1 f_spans_of) (F_bare_spans : Df P w K mg base 1 "bare_spans" 3 f_bare_spans) : Df P w K mg base 2 "most_hits" 3 f_most_hits := by
    have S := sc_most_hits
    exact df_mk G.d_most_hits sc_most_hits rfl (fun _ _ _ _ _ _ us hl => match us, hl with | [_, _, _], _ => rfl) fun f cdv A outer s H E hr => ssm_cons (sm_set 3 (pm_op op_addU rv_add (PM.toB (pm_op op_addU rv_add (PM.toB (pm_lst (cm_cons (pm_int) (cm_nil)))) (PM.toB (pm_callTy (call_list_of) rc_list (by rfl) G.b_list (by decide +kernel) (am_cons (bm_var 2 (pv 2)) (am_nil)))))) (PM.toB (pm_lst (cm_cons (pm_callB (call_lenU) rc_len (by rfl) G.b_len (by decide +kernel) (am_cons (bm_var 1 (pv 1)) (am_nil))) (cm_nil))))) S.nd rfl (by first | exact Or.inl rfl | exact Or.inr rfl)) (ssm_cons (sm_set 4 (pm_call F_spans_of hr (by rfl) (cm_cons (pm_var 1 (pv 1)) (cm_nil))) S.nd rfl (by first | exact Or.inl rfl | exact Or.inr rfl)) (ssm_one (sm_ret (pm_op op_addU rv_add (PM.toB (pm_op op_mulU rv_mul (PM.toB (pm_op op_sub rv_sub (bm_var 0 (pv 0)) (PM.toB (pm_int)))) (PM.toB (pm_callB (call_lenU) rc_len (by rfl) G.b_len (by decide +kernel) (am_cons (bm_var 2 (pv 2)) (am_nil)))))) (PM.toB (pm_callB (cr_sum rfl) rc_sum (by rfl) G.b_sum (by decide +kernel) (am_cons (PM.toB (pm_comp (own := [("a", 5), ("b", 6)]) rfl S.nd (im_zip (by rfl) G.b_zip (cm_cons (pm_var 3 (pv 3)) (cm_cons (pm_sl (sl_list.or (sl_tupA.or sl_str)) (bm_var 3 (pv 3)) (om_some (pm_int)) (om_none)) (cm_nil)))) (blkOk_by (own := [("a", 5), ("b", 6)]) (N := ["frames", "course", "places", "ends", "spans", "a", "b"]) (sc := defScope s_most_hits) (by decide +kernel)) (fun _ _ _ _ _ => gm_tup rfl (gsm_cons (gm_name 5 S.nd rfl (by first | exact Or.inl rfl | exact Or.inr rfl)) (gsm_cons (gm_name 6 S.nd rfl (by first | exact Or.inl rfl | exact Or.inr rfl)) (gsm_nil)))) (fun _ _ _ _ _ => ts_nil) (fun _ _ _ _ _ => pm_call F_bare_spans hr (by rfl) (cm_cons (pm_var 4 (pv 4)) (cm_cons (pm_var 5 (pv 5)) (cm_cons (pm_var 6 (pv 6)) (cm_nil))))) (by decide))) (am_nil))))))))
/-! ### is_course_paper -/
abbrev s_is_course_paper : Stmt := top 63
theorem sc_is_course_paper : FnScope ["frames", "course", "reads", "value", "k"] ["frames", "course", "reads", "value"] (defScope s_is_course_paper) := ⟨rfl, rfl, rfl, by decide +kernel, rfl, by decide +kernel, by decide +kernel⟩
def b_is_course_paper : En → Option Fl := mSeq (mIfS (mOr (mNot (mTru (mIsi .tTuple (mVarB 3)))) (mNot (mTru (mCallB fAll (aCons (mComp (mItems (mVar 3)) [4] (fName 4) (fun _ => pure true) (mCall 3 f_is_number (cCons (mVar 4) (cCons (mC (.int 0)) (cCons (mOp pSub (mCallB fLen (aCons (mVarB 1) (aNil))) (mC (.int 1))) (cNil)))))) (aNil)))))) (mRet (mC (.bl false))) (mNx)) (mRet (mAndV (mCall 1 f_is_ascending (cCons (mVar 3) (cNil))) (mOp pGe (mOp pSub (mCallB fLen (aCons (mVarB 1) (aNil))) (mCall 3 f_most_hits (cCons (mVar 0) (cCons (mVar 1) (cCons (mVar 3) (cNil)))))) (mVarB 2))))
def f_is_course_paper : List D → Option D := mfOf 5 b_is_course_paper
theorem d_is_course_paper (G : Gs K mg) (F_is_number : Df P w K mg base 1 "is_number" 3 f_is_number) (F_is_ascending : Df P w K mg base 1 "is_ascending" 1 f_is_ascending) (F_most_hits : Df P w K mg base 2 "most_hits" 3 f_most_hits) : Df P w K mg base 3 "is_course_paper" 4 f_is_course_paper := by
    have S := sc_is_course_paper
    have F_is_number := F_is_number.mono (show 1 ≤ 2 by decide)
    have F_is_ascending := F_is_ascending.mono (show 1 ≤ 2 by decide)
    exact df_mk G.d_is_course_paper sc_is_course_paper rfl (fun _ _ _ _ _ _ us hl => match us, hl with | [_, _, _, _], _ => rfl) fun f cdv A outer s H E hr => ssm_cons (sm_if (WM.toT (wm_or (tm_not (tm_tru (PM.toB (pm_isi .tTuple (by rfl) G.b_isinstance (by decide +kernel) (by rfl) G.b_tuple (by decide +kernel) (bm_var 3 (pv 3)))) (fun _ => rfl))) (wm_or1 (tm_not (tm_tru (PM.toB (pm_callB (cr_all rfl) rc_all (by rfl) G.b_all (by decide +kernel) (am_cons (PM.toB (pm_comp (own := [("k", 4)]) rfl S.nd (im_seq (pm_var 3 (pv 3))) (blkOk_by (own := [("k", 4)]) (N := ["frames", "course", "reads", "value", "k"]) (sc := defScope s_is_course_paper) (by decide +kernel)) (fun _ _ _ _ _ => gm_name 4 S.nd rfl (by first | exact Or.inl rfl | exact Or.inr rfl)) (fun _ _ _ _ _ => ts_nil) (fun _ _ _ _ _ => pm_call F_is_number hr (by rfl) (cm_cons (pm_var 4 (pv 4)) (cm_cons (pm_int) (cm_cons (pm_op op_sub rv_sub (PM.toB (pm_callB (call_lenU) rc_len (by rfl) G.b_len (by decide +kernel) (am_cons (bm_var 1 (pv 1)) (am_nil)))) (PM.toB (pm_int))) (cm_nil))))) (by decide))) (am_nil)))) (fun _ => rfl)))))) (ssm_one (sm_ret (pm_bl))) (ssm_nil)) (ssm_one (sm_ret (pm_and (pm_call F_is_ascending hr (by rfl) (cm_cons (pm_var 3 (pv 3)) (cm_nil))) (pm_one (pm_cmp op_ge rv_ge (PM.toB (pm_op op_sub rv_sub (PM.toB (pm_callB (call_lenU) rc_len (by rfl) G.b_len (by decide +kernel) (am_cons (bm_var 1 (pv 1)) (am_nil)))) (PM.toB (pm_call F_most_hits hr (by rfl) (cm_cons (pm_var 0 (pv 0)) (cm_cons (pm_var 1 (pv 1)) (cm_cons (pm_var 3 (pv 3)) (cm_nil)))))))) (bm_var 2 (pv 2)) (by first | exact nobehind _ (by decide) (by decide) | rfl))))))
/-! ### is_judged -/
abbrev s_is_judged : Stmt := top 65
theorem sc_is_judged : FnScope ["parts"] ["parts"] (defScope s_is_judged) := ⟨rfl, rfl, rfl, by decide +kernel, rfl, by decide +kernel, by decide +kernel⟩
def b_is_judged : En → Option Fl := mRet (mAndV (mOp (pEqv false) (mCallB fLen (aCons (mVarB 0) (aNil))) (mC (.int 1))) (mCall 1 f_is_history (cCons (mOp pIx (mVarB 0) (mC (.int 0))) (cNil))))
def f_is_judged : List D → Option D := mfOf 1 b_is_judged
theorem d_is_judged (G : Gs K mg) (F_is_history : Df P w K mg base 6 "is_history" 1 f_is_history) : Df P w K mg base 7 "is_judged" 1 f_is_judged := by
    have S := sc_is_judged
    exact df_mk G.d_is_judged sc_is_judged rfl (fun _ _ _ _ _ _ us hl => match us, hl with | [_], _ => rfl) fun f cdv A outer s H E hr => ssm_one (sm_ret (pm_and (pm_cmp (op_eqD (u64_of hr)) rv_eq (PM.toB (pm_callB (call_lenU) rc_len (by rfl) G.b_len (by decide +kernel) (am_cons (bm_var 0 (pv 0)) (am_nil)))) (PM.toB (pm_int)) (by first | exact nobehind _ (by decide) (by decide) | rfl)) (pm_one (pm_call F_is_history hr (by rfl) (cm_cons (pm_ix ix_seq rv_ix (bm_var 0 (pv 0)) (PM.toB (pm_int)) (fun _ _ => rfl)) (cm_nil))))))
/-! ### is_framed -/
abbrev s_is_framed : Stmt := top 66
theorem sc_is_framed : FnScope ["parts"] ["parts"] (defScope s_is_framed) := ⟨rfl, rfl, rfl, by decide +kernel, rfl, by decide +kernel, by decide +kernel⟩
def b_is_framed : En → Option Fl := mRet (mAndV (mOp (pEqv false) (mCallB fLen (aCons (mVarB 0) (aNil))) (mC (.int 2))) (mAndV (mCall 3 f_is_number (cCons (mOp pIx (mVarB 0) (mC (.int 0))) (cCons (mC (.int 1)) (cCons (mC d_MOST_FRAMES) (cNil))))) (mCall 1 f_is_course (cCons (mOp pIx (mVarB 0) (mC (.int 1))) (cNil)))))
def f_is_framed : List D → Option D := mfOf 1 b_is_framed
theorem d_is_framed (G : Gs K mg) (F_is_number : Df P w K mg base 1 "is_number" 3 f_is_number) (F_is_course : Df P w K mg base 2 "is_course" 1 f_is_course) : Df P w K mg base 3 "is_framed" 1 f_is_framed := by
    have S := sc_is_framed
    have F_is_number := F_is_number.mono (show 1 ≤ 2 by decide)
    exact df_mk G.d_is_framed sc_is_framed rfl (fun _ _ _ _ _ _ us hl => match us, hl with | [_], _ => rfl) fun f cdv A outer s H E hr => ssm_one (sm_ret (pm_and (pm_cmp (op_eqD (u64_of hr)) rv_eq (PM.toB (pm_callB (call_lenU) rc_len (by rfl) G.b_len (by decide +kernel) (am_cons (bm_var 0 (pv 0)) (am_nil)))) (PM.toB (pm_int)) (by first | exact nobehind _ (by decide) (by decide) | rfl)) (pm_and (pm_call F_is_number hr (by rfl) (cm_cons (pm_ix ix_seq rv_ix (bm_var 0 (pv 0)) (PM.toB (pm_int)) (fun _ _ => rfl)) (cm_cons (pm_int) (cm_cons (pm_g G.c_MOST_FRAMES (by rfl)) (cm_nil))))) (pm_one (pm_call F_is_course hr (by rfl) (cm_cons (pm_ix ix_seq rv_ix (bm_var 0 (pv 0)) (PM.toB (pm_int)) (fun _ _ => rfl)) (cm_nil)))))))
/-! ### is_told_reads -/
abbrev s_is_told_reads : Stmt := top 67
theorem sc_is_told_reads : FnScope ["parts"] ["parts"] (defScope s_is_told_reads) := ⟨rfl, rfl, rfl, by decide +kernel, rfl, by decide +kernel, by decide +kernel⟩
def b_is_told_reads : En → Option Fl := mRet (mAndV (mOp (pEqv false) (mCallB fLen (aCons (mVarB 0) (aNil))) (mC (.int 3))) (mAndV (mCall 1 f_is_framed (cCons (mSl (mVarB 0) (mNoPart) (mPart (mC (.int 2)))) (cNil))) (mCall 3 f_is_number (cCons (mOp pIx (mVarB 0) (mC (.int 2))) (cCons (mC (.int 0)) (cCons (mCallB fLen (aCons (mOp pIx (mVarB 0) (mC (.int 1))) (aNil))) (cNil)))))))
def f_is_told_reads : List D → Option D := mfOf 1 b_is_told_reads
theorem d_is_told_reads (G : Gs K mg) (F_is_framed : Df P w K mg base 3 "is_framed" 1 f_is_framed) (F_is_number : Df P w K mg base 1 "is_number" 3 f_is_number) : Df P w K mg base 4 "is_told_reads" 1 f_is_told_reads := by
    have S := sc_is_told_reads
    have F_is_number := F_is_number.mono (show 1 ≤ 3 by decide)
    exact df_mk G.d_is_told_reads sc_is_told_reads rfl (fun _ _ _ _ _ _ us hl => match us, hl with | [_], _ => rfl) fun f cdv A outer s H E hr => ssm_one (sm_ret (pm_and (pm_cmp (op_eqD (u64_of hr)) rv_eq (PM.toB (pm_callB (call_lenU) rc_len (by rfl) G.b_len (by decide +kernel) (am_cons (bm_var 0 (pv 0)) (am_nil)))) (PM.toB (pm_int)) (by first | exact nobehind _ (by decide) (by decide) | rfl)) (pm_and (pm_call F_is_framed hr (by rfl) (cm_cons (pm_sl (sl_list.or (sl_tupA.or sl_str)) (bm_var 0 (pv 0)) (om_none) (om_some (pm_int))) (cm_nil))) (pm_one (pm_call F_is_number hr (by rfl) (cm_cons (pm_ix ix_seq rv_ix (bm_var 0 (pv 0)) (PM.toB (pm_int)) (fun _ _ => rfl)) (cm_cons (pm_int) (cm_cons (pm_callB (call_lenU) rc_len (by rfl) G.b_len (by decide +kernel) (am_cons (PM.toB (pm_ix ix_seq rv_ix (bm_var 0 (pv 0)) (PM.toB (pm_int)) (fun _ _ => rfl))) (am_nil))) (cm_nil)))))))))
/-! ### has_word -/
abbrev s_has_word : Stmt := top 70
theorem sc_has_word : FnScope ["value"] ["value"] (defScope s_has_word) := ⟨rfl, rfl, rfl, by decide +kernel, rfl, by decide +kernel, by decide +kernel⟩
def b_has_word : En → Option Fl := mRet (mAndV (mIsi .tTuple (mVarB 0)) (mAndV (mOp (pEqv true) (mVarB 0) (mTup (cNil))) (mIsi .tStr (mOp pIx (mVarB 0) (mC (.int 0))))))
def f_has_word : List D → Option D := mfOf 1 b_has_word
theorem d_has_word (G : Gs K mg)  : Df P w K mg base 1 "has_word" 1 f_has_word := by
    have S := sc_has_word
    exact df_mk G.d_has_word sc_has_word rfl (fun _ _ _ _ _ _ us hl => match us, hl with | [_], _ => rfl) fun f cdv A outer s H E hr => ssm_one (sm_ret (pm_and (pm_isi .tTuple (by rfl) G.b_isinstance (by decide +kernel) (by rfl) G.b_tuple (by decide +kernel) (bm_var 0 (pv 0))) (pm_and (pm_cmp (op_neD (u64_of hr)) rv_ne (bm_var 0 (pv 0)) (PM.toB (pm_tup (cm_nil))) (by first | exact nobehind _ (by decide) (by decide) | rfl)) (pm_one (pm_isi .tStr (by rfl) G.b_isinstance (by decide +kernel) (by rfl) G.b_str (by decide +kernel) (PM.toB (pm_ix ix_seq rv_ix (bm_var 0 (pv 0)) (PM.toB (pm_int)) (fun _ _ => rfl))))))))
end
end K70
set_option Elab.async false
set_option linter.all false
set_option maxRecDepth 100000
set_option maxHeartbeats 2000000
set_option autoImplicit false
namespace K70
open PySem PySem.Spec PyProof.Rows L2 Fm
/-! ### FORMS and ASKED -/
def tbF : List (Str × Option (List D → Option D)) := [("explained", some f_is_judged), ("unexplained", some f_is_judged), ("never fewer", some f_is_told_reads), ("can be read", some f_is_told_reads), ("explainedz", none), ("unexplainedz", none), ("never fewerz", none), ("can be readz", none)]
def tbA : List (Str × Option (List D → Option D)) := [("explain", some f_is_judged), ("fewest", some f_is_framed), ("read", some f_is_framed), ("explainz", none), ("fewestz", none), ("readz", none)]
/-- what the two tables hold -/
structure Tabs (K : PySem.W.Frag) (w : World) (mg : Str → Option Value) : Prop where
  forms : ∃ d es m, mg "FORMS" = some (.ref d) ∧ KDict K w d es m ∧ PySem.W.nsIn K d "explained" = some (mg "is_judged") ∧ PySem.W.nsIn K d "unexplained" = some (mg "is_judged") ∧ PySem.W.nsIn K d "never fewer" = some (mg "is_told_reads") ∧ PySem.W.nsIn K d "can be read" = some (mg "is_told_reads") ∧
    PySem.W.nsIn K d "explainedz" = some none ∧ PySem.W.nsIn K d "unexplainedz" = some none ∧ PySem.W.nsIn K d "never fewerz" = some none ∧ PySem.W.nsIn K d "can be readz" = some none
  asked : ∃ d es m, mg "ASKED" = some (.ref d) ∧ KDict K w d es m ∧ PySem.W.nsIn K d "explain" = some (mg "is_judged") ∧ PySem.W.nsIn K d "fewest" = some (mg "is_framed") ∧ PySem.W.nsIn K d "read" = some (mg "is_framed") ∧
    PySem.W.nsIn K d "explainz" = some none ∧ PySem.W.nsIn K d "fewestz" = some none ∧ PySem.W.nsIn K d "readz" = some none
section
variable {P : Program} {w : World} {K : PySem.W.Frag} {mg : Str → Option Value} {base : Heap}
theorem held_of {k j n : Nat} {x : Str} {g : List D → Option D} {d : Addr} {z : Str} (F : Df P w K mg base j x n g) (hj : j ≤ k) (h : PySem.W.nsIn K d z = some (mg x)) : ∃ a, PySem.W.nsIn K d z = some (some (.ref a)) ∧ Held1 P w K mg base k a n g := by
  obtain ⟨f, fd, ps, G, hm, hk, hb⟩ := F.ex
  exact ⟨f, by rw [h, hm], fd, ps, G.mono hj, hk, hb⟩
theorem tabF (T : Tabs K w mg) (FJ : Df P w K mg base 7 "is_judged" 1 f_is_judged) (FT : Df P w K mg base 4 "is_told_reads" 1 f_is_told_reads) : TabOk P w K mg base 7 "FORMS" 1 tbF := by
  obtain ⟨d, es, m, h0, D, h1, h2, h3, h4, h5, h6, h7, h8⟩ := T.forms
  refine ⟨d, es, m, h0, D, fun p hp => ?_⟩
  unfold tbF at hp
  simp only [List.mem_cons, List.not_mem_nil, or_false] at hp
  rcases hp with rfl | rfl | rfl | rfl | rfl | rfl | rfl | rfl
  · exact held_of FJ (by decide) h1
  · exact held_of FJ (by decide) h2
  · exact held_of FT (by decide) h3
  · exact held_of FT (by decide) h4
  · exact h5
  · exact h6
  · exact h7
  · exact h8
theorem tabA (T : Tabs K w mg) (FJ : Df P w K mg base 7 "is_judged" 1 f_is_judged) (FF : Df P w K mg base 3 "is_framed" 1 f_is_framed) : TabOk P w K mg base 7 "ASKED" 1 tbA := by
  obtain ⟨d, es, m, h0, D, h1, h2, h3, h5, h6, h7⟩ := T.asked
  refine ⟨d, es, m, h0, D, fun p hp => ?_⟩
  unfold tbA at hp
  simp only [List.mem_cons, List.not_mem_nil, or_false] at hp
  rcases hp with rfl | rfl | rfl | rfl | rfl | rfl
  · exact held_of FJ (by decide) h1
  · exact held_of FF (by decide) h2
  · exact held_of FF (by decide) h3
  · exact h5
  · exact h6
  · exact h7
def b_is_claim : En → Option Fl := mRet (mAndV (mCall 1 f_has_word (cCons (mVar 0) cNil)) (mAndV (mKin tbF (mOp pIx (mVarB 0) (mC (.int 0)))) (mDisp 1 tbF (mOp pIx (mVarB 0) (mC (.int 0))) (cCons (mSl (mVarB 0) (mPart (mC (.int 1))) mNoPart) cNil))))
def f_is_claim : List D → Option D := mfOf 1 b_is_claim
abbrev s_is_claim : Stmt := top 71
theorem sc_is_claim : FnScope ["value"] ["value"] (defScope s_is_claim) := ⟨rfl, rfl, rfl, by decide +kernel, rfl, by decide +kernel, by decide +kernel⟩
theorem d_is_claim (G : Gs K mg) (T : Tabs K w mg) (F_has_word : Df P w K mg base 1 "has_word" 1 f_has_word) (FJ : Df P w K mg base 7 "is_judged" 1 f_is_judged) (FT : Df P w K mg base 4 "is_told_reads" 1 f_is_told_reads) : Df P w K mg base 8 "is_claim" 1 f_is_claim := by
  have T1 := tabF T FJ FT
  have S := sc_is_claim
  have F1 := F_has_word.mono (show 1 ≤ 7 by decide)
  exact df_mk G.d_is_claim sc_is_claim rfl (fun _ _ _ _ _ _ us hl => match us, hl with | [_], _ => rfl) fun f cdv A outer s H E hr => ssm_one (sm_ret (pm_and (pm_call F1 hr (by rfl) (cm_cons (pm_var 0 (pv 0)) cm_nil))
    (pm_and (pm_kin T1 (by rfl) (PM.toB (pm_ix ix_seq rv_ix (bm_var 0 (pv 0)) (PM.toB pm_int) (fun _ _ => rfl))))
    (pm_one (pm_disp T1 hr (by rfl) (PM.toB (pm_ix ix_seq rv_ix (bm_var 0 (pv 0)) (PM.toB pm_int) (fun _ _ => rfl))) (cm_cons (pm_sl (sl_list.or (sl_tupA.or sl_str)) (bm_var 0 (pv 0)) (om_some pm_int) om_none) cm_nil) (fun _ _ => rfl))))))
def b_is_question : En → Option Fl := mRet (mAndV (mCall 1 f_has_word (cCons (mVar 0) cNil)) (mAndV (mKin tbA (mOp pIx (mVarB 0) (mC (.int 0)))) (mDisp 1 tbA (mOp pIx (mVarB 0) (mC (.int 0))) (cCons (mSl (mVarB 0) (mPart (mC (.int 1))) mNoPart) cNil))))
def f_is_question : List D → Option D := mfOf 1 b_is_question
abbrev s_is_question : Stmt := top 72
theorem sc_is_question : FnScope ["value"] ["value"] (defScope s_is_question) := ⟨rfl, rfl, rfl, by decide +kernel, rfl, by decide +kernel, by decide +kernel⟩
theorem d_is_question (G : Gs K mg) (T : Tabs K w mg) (F_has_word : Df P w K mg base 1 "has_word" 1 f_has_word) (FJ : Df P w K mg base 7 "is_judged" 1 f_is_judged) (FF : Df P w K mg base 3 "is_framed" 1 f_is_framed) : Df P w K mg base 8 "is_question" 1 f_is_question := by
  have T1 := tabA T FJ FF
  have S := sc_is_question
  have F1 := F_has_word.mono (show 1 ≤ 7 by decide)
  exact df_mk G.d_is_question sc_is_question rfl (fun _ _ _ _ _ _ us hl => match us, hl with | [_], _ => rfl) fun f cdv A outer s H E hr => ssm_one (sm_ret (pm_and (pm_call F1 hr (by rfl) (cm_cons (pm_var 0 (pv 0)) cm_nil))
    (pm_and (pm_kin T1 (by rfl) (PM.toB (pm_ix ix_seq rv_ix (bm_var 0 (pv 0)) (PM.toB pm_int) (fun _ _ => rfl))))
    (pm_one (pm_disp T1 hr (by rfl) (PM.toB (pm_ix ix_seq rv_ix (bm_var 0 (pv 0)) (PM.toB pm_int) (fun _ _ => rfl))) (cm_cons (pm_sl (sl_list.or (sl_tupA.or sl_str)) (bm_var 0 (pv 0)) (om_some pm_int) om_none) cm_nil) (fun _ _ => rfl))))))
end
end K70
set_option Elab.async false
set_option linter.all false
set_option maxRecDepth 100000
set_option maxHeartbeats 2000000
set_option autoImplicit false
namespace K70
open PySem PySem.Spec PyProof.Rows L2 Fm
section
variable {P : Program} {w : World} {K : PySem.W.Frag} {mg : Str → Option Value} {base : Heap}

/-! ### reads_with -/
abbrev s_reads_with : Stmt := top 74
theorem sc_reads_with : FnScope ["frames", "course", "goes", "held", "left", "reads", "page"] ["frames", "course", "goes"] (defScope s_reads_with) := ⟨rfl, rfl, rfl, by decide +kernel, rfl, by decide +kernel, by decide +kernel⟩
def b_reads_with : En → Option Fl := mSeq (mPar3 3 4 5 (nLst (cNil)) (nList (aCons (mVarB 2) (aNil))) (nSh (mC (.int 0)))) (mSeq (mFor (mItems (mVar 1)) (fName 6) (mSeq (mIfS (mTest (mOp (pIn false) (mVarB 6) (mVarB 3))) ((fun E => pure (.ct E))) (mNx)) (mSeq (mAug 5 (mC (.int 1))) (mSeq (mIfS (mTest (mOp (pEqv false) (mCallB fLen (aCons (mVarB 3) (aNil))) (mVarB 0))) (mSeq (mIfS (mOr (mNot (mTru (mVarB 4))) (mTest (mOp (pIn true) (mOp pIx (mVarB 4) (mC (.int 0))) (mVarB 3)))) (mRet (mC .non)) (mNx)) (mRemPop 3 4)) (mNx)) (mApp 3 (mVar 6)))))) (mRet (mIf (mTru (mVarB 4)) (mC .non) (mVar 5))))
def f_reads_with : List D → Option D := mfOf 7 b_reads_with
theorem d_reads_with (G : Gs K mg)  : Df P w K mg base 1 "reads_with" 3 f_reads_with := by
    have S := sc_reads_with
    exact df_mk G.d_reads_with sc_reads_with rfl (fun _ _ _ _ _ _ us hl => match us, hl with | [_, _, _], _ => rfl) fun f cdv A outer s H E hr => ssm_cons (sm_par3 3 4 5 rfl S.nd rfl rfl rfl (by decide) (by decide) (by decide) rfl rfl rfl (nm_lst (cm_nil)) (nm_list (by rfl) G.b_list (am_cons (bm_var 2 (pv 2)) (am_nil))) (nm_sh (pm_int)) rfl) (ssm_cons (sm_for PassesOwn.never rfl (im_seq (pm_var 1 (pv 1))) (gm_name 6 S.nd rfl (by first | exact Or.inl rfl | exact Or.inr rfl)) (ssm_cons (sm_if (tm_cmp (op_inU (u65_of hr)) rv_in (bm_var 6 (pv 6)) (bm_var 3 (pv 3)) (by first | exact nobehind _ (by decide) (by decide) | rfl)) (ssm_one (sm_cont)) (ssm_nil)) (ssm_cons (sm_aug 5 (pm_int) S.nd rfl (by first | exact Or.inl rfl | exact Or.inr rfl)) (ssm_cons (sm_if (tm_cmp (op_eqD (u64_of hr)) rv_eq (PM.toB (pm_callB (call_lenU) rc_len (by rfl) G.b_len (by decide +kernel) (am_cons (bm_var 3 (pv 3)) (am_nil)))) (bm_var 0 (pv 0)) (by first | exact nobehind _ (by decide) (by decide) | rfl)) (ssm_cons (sm_if (WM.toT (wm_or (tm_not (tm_tru (bm_var 4 (pv 4)) (fun _ => rfl))) (wm_or1 (tm_cmp (op_notInU (u65_of hr)) rv_notin (PM.toB (pm_ix ix_seq rv_ix (bm_var 4 (pv 4)) (PM.toB (pm_int)) (fun _ _ => rfl))) (bm_var 3 (pv 3)) (by first | exact nobehind _ (by decide) (by decide) | rfl))))) (ssm_one (sm_ret (pm_non))) (ssm_nil)) (ssm_one (sm_remPop 3 4 (by decide) (pv 3) (pv 4) (by exact pe_bm PySem.F.plainAttrs_list PySem.F.slot_list_pop PySem.F.type_list_pop mt_popAt (pv 4) (pa_cons pe_int pa_nil)) (fun t h => by exact pe_bm PySem.F.plainAttrs_list PySem.F.slot_list_remove PySem.F.type_list_remove mt_remove (pv 3) (pa_cons h pa_nil))))) (ssm_nil)) (ssm_one (sm_app 3 (pv 3) (pm_var 6 (pv 6)))))))) (ssm_one (sm_ret (pm_if (tm_tru (bm_var 4 (pv 4)) (fun _ => rfl)) (pm_non) (pm_var 5 (pv 5))))))
/-! ### are_pages_out -/
abbrev s_are_pages_out : Stmt := top 75
theorem sc_are_pages_out : FnScope ["value", "n"] ["value"] (defScope s_are_pages_out) := ⟨rfl, rfl, rfl, by decide +kernel, rfl, by decide +kernel, by decide +kernel⟩
def b_are_pages_out : En → Option Fl := mRet (mAndV (mIsi .tTuple (mVarB 0)) (mCallB fAll (aCons (mComp (mItems (mVar 0)) [1] (fName 1) (fun _ => pure true) (mAndV (mIsi .tInt (mVarB 1)) (mNotV (mIsi .tBool (mVarB 1))))) (aNil))))
def f_are_pages_out : List D → Option D := mfOf 2 b_are_pages_out
theorem d_are_pages_out (G : Gs K mg)  : Df P w K mg base 1 "are_pages_out" 1 f_are_pages_out := by
    have S := sc_are_pages_out
    exact df_mk G.d_are_pages_out sc_are_pages_out rfl (fun _ _ _ _ _ _ us hl => match us, hl with | [_], _ => rfl) fun f cdv A outer s H E hr => ssm_one (sm_ret (pm_and (pm_isi .tTuple (by rfl) G.b_isinstance (by decide +kernel) (by rfl) G.b_tuple (by decide +kernel) (bm_var 0 (pv 0))) (pm_one (pm_callB (cr_all rfl) rc_all (by rfl) G.b_all (by decide +kernel) (am_cons (PM.toB (pm_comp (own := [("n", 1)]) rfl S.nd (im_seq (pm_var 0 (pv 0))) (blkOk_by (own := [("n", 1)]) (N := ["value", "n"]) (sc := defScope s_are_pages_out) (by decide +kernel)) (fun _ _ _ _ _ => gm_name 1 S.nd rfl (by first | exact Or.inl rfl | exact Or.inr rfl)) (fun _ _ _ _ _ => ts_nil) (fun _ _ _ _ _ => pm_and (pm_isi .tInt (by rfl) G.b_isinstance (by decide +kernel) (by rfl) G.b_int (by decide +kernel) (bm_var 1 (pv 1))) (pm_one (pm_not (PM.toB (pm_isi .tBool (by rfl) G.b_isinstance (by decide +kernel) (by rfl) G.b_bool (by decide +kernel) (bm_var 1 (pv 1))))))) (by decide))) (am_nil))))))
/-! ### proves_reads -/
abbrev s_proves_reads : Stmt := top 76
theorem sc_proves_reads : FnScope ["frames", "course", "reads", "paper", "found"] ["frames", "course", "reads", "paper"] (defScope s_proves_reads) := ⟨rfl, rfl, rfl, by decide +kernel, rfl, by decide +kernel, by decide +kernel⟩
def b_proves_reads : En → Option Fl := mSeq (mIfS (mNot (mTru (mCall 1 f_are_pages_out (cCons (mVar 3) (cNil))))) (mRet (mC (.bl false))) (mNx)) (mSeq (mAsg (mCall 3 f_reads_with (cCons (mVar 0) (cCons (mVar 1) (cCons (mVar 3) (cNil))))) (fName 4)) (mRet (mAndV (mOp pIs2 (mVarB 4) (mC .non)) (mOp pLe (mVarB 4) (mVarB 2)))))
def f_proves_reads : List D → Option D := mfOf 5 b_proves_reads
theorem d_proves_reads (G : Gs K mg) (F_are_pages_out : Df P w K mg base 1 "are_pages_out" 1 f_are_pages_out) (F_reads_with : Df P w K mg base 1 "reads_with" 3 f_reads_with) : Df P w K mg base 2 "proves_reads" 4 f_proves_reads := by
    have S := sc_proves_reads
    exact df_mk G.d_proves_reads sc_proves_reads rfl (fun _ _ _ _ _ _ us hl => match us, hl with | [_, _, _, _], _ => rfl) fun f cdv A outer s H E hr => ssm_cons (sm_if (tm_not (tm_tru (PM.toB (pm_call F_are_pages_out hr (by rfl) (cm_cons (pm_var 3 (pv 3)) (cm_nil)))) (fun _ => rfl))) (ssm_one (sm_ret (pm_bl))) (ssm_nil)) (ssm_cons (sm_set 4 (pm_call F_reads_with hr (by rfl) (cm_cons (pm_var 0 (pv 0)) (cm_cons (pm_var 1 (pv 1)) (cm_cons (pm_var 3 (pv 3)) (cm_nil))))) S.nd rfl (by first | exact Or.inl rfl | exact Or.inr rfl)) (ssm_one (sm_ret (pm_and (pm_cmp op_notW rv_notw (bm_var 4 (pv 4)) (PM.toB (pm_non)) (by first | exact nobehind _ (by decide) (by decide) | rfl)) (pm_one (pm_cmp op_le rv_le (bm_var 4 (pv 4)) (bm_var 2 (pv 2)) (by first | exact nobehind _ (by decide) (by decide) | rfl)))))))
/-! ### proves -/
abbrev s_proves : Stmt := top 77
theorem sc_proves : FnScope ["claim", "paper", "word", "parts"] ["claim", "paper"] (defScope s_proves) := ⟨rfl, rfl, rfl, by decide +kernel, rfl, by decide +kernel, by decide +kernel⟩
def b_proves : En → Option Fl := mSeq (mIfS (mNot (mTru (mCall 1 f_is_claim (cCons (mVar 0) (cNil))))) (mRet (mC (.bl false))) (mNx)) (mSeq (mPar 2 3 (nSh (mOp pIx (mVarB 0) (mC (.int 0)))) (nSh (mSl (mVarB 0) (mPart (mC (.int 1))) (mNoPart)))) (mSeq (mIfS (mTest (mOp (pEqv false) (mVarB 2) (mC (.str "explained")))) (mRet (mCall 2 f_is_explaining (cCons (mOp pIx (mVarB 3) (mC (.int 0))) (cCons (mVar 1) (cNil))))) (mNx)) (mSeq (mIfS (mTest (mOp (pEqv false) (mVarB 2) (mC (.str "unexplained")))) (mRet (mCall 2 f_is_history_paper (cCons (mOp pIx (mVarB 3) (mC (.int 0))) (cCons (mVar 1) (cNil))))) (mNx)) (mSeq (mIfS (mTest (mOp (pEqv false) (mVarB 2) (mC (.str "never fewer")))) (mRet (mCall 4 f_is_course_paper (cCons (mOp pIx (mVarB 3) (mC (.int 0))) (cCons (mOp pIx (mVarB 3) (mC (.int 1))) (cCons (mOp pIx (mVarB 3) (mC (.int 2))) (cCons (mVar 1) (cNil))))))) (mNx)) (mRet (mCall 4 f_proves_reads (cCons (mOp pIx (mVarB 3) (mC (.int 0))) (cCons (mOp pIx (mVarB 3) (mC (.int 1))) (cCons (mOp pIx (mVarB 3) (mC (.int 2))) (cCons (mVar 1) (cNil)))))))))))
def f_proves : List D → Option D := mfOf 4 b_proves
theorem d_proves (G : Gs K mg) (F_is_claim : Df P w K mg base 8 "is_claim" 1 f_is_claim) (F_is_explaining : Df P w K mg base 7 "is_explaining" 2 f_is_explaining) (F_is_history_paper : Df P w K mg base 8 "is_history_paper" 2 f_is_history_paper) (F_is_course_paper : Df P w K mg base 3 "is_course_paper" 4 f_is_course_paper) (F_proves_reads : Df P w K mg base 2 "proves_reads" 4 f_proves_reads) : Df P w K mg base 9 "proves" 2 f_proves := by
    have S := sc_proves
    have F_is_explaining := F_is_explaining.mono (show 7 ≤ 8 by decide)
    have F_is_course_paper := F_is_course_paper.mono (show 3 ≤ 8 by decide)
    have F_proves_reads := F_proves_reads.mono (show 2 ≤ 8 by decide)
    exact df_mk G.d_proves sc_proves rfl (fun _ _ _ _ _ _ us hl => match us, hl with | [_, _], _ => rfl) fun f cdv A outer s H E hr => ssm_cons (sm_if (tm_not (tm_tru (PM.toB (pm_call F_is_claim hr (by rfl) (cm_cons (pm_var 0 (pv 0)) (cm_nil)))) (fun _ => rfl))) (ssm_one (sm_ret (pm_bl))) (ssm_nil)) (ssm_cons (sm_par 2 3 rfl S.nd rfl rfl (by decide) rfl rfl (nm_sh (pm_ix ix_seq rv_ix (bm_var 0 (pv 0)) (PM.toB (pm_int)) (fun _ _ => rfl))) (nm_sh (pm_sl (sl_list.or (sl_tupA.or sl_str)) (bm_var 0 (pv 0)) (om_some (pm_int)) (om_none))) rfl) (ssm_cons (sm_if (tm_cmp (op_eqD (u64_of hr)) rv_eq (bm_var 2 (pv 2)) (PM.toB (pm_str)) (by first | exact nobehind _ (by decide) (by decide) | rfl)) (ssm_one (sm_ret (pm_call F_is_explaining hr (by rfl) (cm_cons (pm_ix ix_seq rv_ix (bm_var 3 (pv 3)) (PM.toB (pm_int)) (fun _ _ => rfl)) (cm_cons (pm_var 1 (pv 1)) (cm_nil)))))) (ssm_nil)) (ssm_cons (sm_if (tm_cmp (op_eqD (u64_of hr)) rv_eq (bm_var 2 (pv 2)) (PM.toB (pm_str)) (by first | exact nobehind _ (by decide) (by decide) | rfl)) (ssm_one (sm_ret (pm_call F_is_history_paper hr (by rfl) (cm_cons (pm_ix ix_seq rv_ix (bm_var 3 (pv 3)) (PM.toB (pm_int)) (fun _ _ => rfl)) (cm_cons (pm_var 1 (pv 1)) (cm_nil)))))) (ssm_nil)) (ssm_cons (sm_if (tm_cmp (op_eqD (u64_of hr)) rv_eq (bm_var 2 (pv 2)) (PM.toB (pm_str)) (by first | exact nobehind _ (by decide) (by decide) | rfl)) (ssm_one (sm_ret (pm_call F_is_course_paper hr (by rfl) (cm_cons (pm_ix ix_seq rv_ix (bm_var 3 (pv 3)) (PM.toB (pm_int)) (fun _ _ => rfl)) (cm_cons (pm_ix ix_seq rv_ix (bm_var 3 (pv 3)) (PM.toB (pm_int)) (fun _ _ => rfl)) (cm_cons (pm_ix ix_seq rv_ix (bm_var 3 (pv 3)) (PM.toB (pm_int)) (fun _ _ => rfl)) (cm_cons (pm_var 1 (pv 1)) (cm_nil)))))))) (ssm_nil)) (ssm_one (sm_ret (pm_call F_proves_reads hr (by rfl) (cm_cons (pm_ix ix_seq rv_ix (bm_var 3 (pv 3)) (PM.toB (pm_int)) (fun _ _ => rfl)) (cm_cons (pm_ix ix_seq rv_ix (bm_var 3 (pv 3)) (PM.toB (pm_int)) (fun _ _ => rfl)) (cm_cons (pm_ix ix_seq rv_ix (bm_var 3 (pv 3)) (PM.toB (pm_int)) (fun _ _ => rfl)) (cm_cons (pm_var 1 (pv 1)) (cm_nil))))))))))))
end
end K70
set_option Elab.async false
set_option linter.all false
set_option maxRecDepth 100000
set_option maxHeartbeats 2000000
set_option autoImplicit false
namespace K70
open PySem PySem.Spec PyProof.Rows L2 Fm
section
variable {P : Program} {w : World} {K : PySem.W.Frag} {mg : Str → Option Value} {base : Heap}

/-! ### _law_same -/
abbrev s__law_same : Stmt := top 82
theorem sc__law_same : FnScope ["a", "b", "k"] ["a", "b"] (defScope s__law_same) := ⟨rfl, rfl, rfl, by decide +kernel, rfl, by decide +kernel, by decide +kernel⟩
def b__law_same (c_self : List D → Option D) : En → Option Fl := mSeq (mIfS (mOr (mAnd (mTru (mIsi .tTuple (mVarB 0))) (mTru (mIsi .tTuple (mVarB 1)))) (mAnd (mTru (mIsi .tList (mVarB 0))) (mTru (mIsi .tList (mVarB 1))))) (mRet (mAndV (mOp (pEqv false) (mCallB fLen (aCons (mVarB 0) (aNil))) (mCallB fLen (aCons (mVarB 1) (aNil)))) (mCallB fAll (aCons (mComp (mRng rng1 (aCons (mCallB fLen (aCons (mVarB 0) (aNil))) (aNil))) [2] (fName 2) (fun _ => pure true) (mCall 2 c_self (cCons (mOp pIx (mVarB 0) (mVarB 2)) (cCons (mOp pIx (mVarB 1) (mVarB 2)) (cNil))))) (aNil))))) (mNx)) (mSeq (mIfS (mOr (mTru (mIsi .tBool (mVarB 0))) (mTru (mIsi .tBool (mVarB 1)))) (mRet (mAndV (mIsi .tBool (mVarB 0)) (mAndV (mIsi .tBool (mVarB 1)) (mOp (pEqv false) (mVarB 0) (mVarB 1))))) (mNx)) (mSeq (mIfS (mOr (mAnd (mTru (mIsi .tInt (mVarB 0))) (mTru (mIsi .tInt (mVarB 1)))) (mAnd (mTru (mIsi .tStr (mVarB 0))) (mTru (mIsi .tStr (mVarB 1))))) (mRet (mOp (pEqv false) (mVarB 0) (mVarB 1))) (mNx)) (mRet (mAndV (mOp (pIs false) (mVarB 0) (mC .non)) (mOp (pIs false) (mVarB 1) (mC .non))))))
def r__law_same : Nat → List D → Option D
  | 0 => fun _ => none
  | n + 1 => mfOf 3 (b__law_same (r__law_same n))
theorem d__law_same (G : Gs K mg)  : ∀ n, Df P w K mg base n "_law_same" 2 (r__law_same n)
  | 0 => df_none G.d__law_same (ps := ["a", "b"]) rfl (fun _ _ _ _ _ _ us hl => match us, hl with | [_, _], _ => rfl)
  | n + 1 => by
    have F_self := d__law_same G n
    have S := sc__law_same
    exact df_mk G.d__law_same sc__law_same rfl (fun _ _ _ _ _ _ us hl => match us, hl with | [_, _], _ => rfl) fun f cdv A outer s H E hr => ssm_cons (sm_if (WM.toT (wm_or (WM.toT (wm_and (tm_tru (PM.toB (pm_isi .tTuple (by rfl) G.b_isinstance (by decide +kernel) (by rfl) G.b_tuple (by decide +kernel) (bm_var 0 (pv 0)))) (fun _ => rfl)) (wm_and1 (tm_tru (PM.toB (pm_isi .tTuple (by rfl) G.b_isinstance (by decide +kernel) (by rfl) G.b_tuple (by decide +kernel) (bm_var 1 (pv 1)))) (fun _ => rfl))))) (wm_or1 (WM.toT (wm_and (tm_tru (PM.toB (pm_isi .tList (by rfl) G.b_isinstance (by decide +kernel) (by rfl) G.b_list (by decide +kernel) (bm_var 0 (pv 0)))) (fun _ => rfl)) (wm_and1 (tm_tru (PM.toB (pm_isi .tList (by rfl) G.b_isinstance (by decide +kernel) (by rfl) G.b_list (by decide +kernel) (bm_var 1 (pv 1)))) (fun _ => rfl)))))))) (ssm_one (sm_ret (pm_and (pm_cmp (op_eqD (u64_of hr)) rv_eq (PM.toB (pm_callB (call_lenU) rc_len (by rfl) G.b_len (by decide +kernel) (am_cons (bm_var 0 (pv 0)) (am_nil)))) (PM.toB (pm_callB (call_lenU) rc_len (by rfl) G.b_len (by decide +kernel) (am_cons (bm_var 1 (pv 1)) (am_nil)))) (by first | exact nobehind _ (by decide) (by decide) | rfl)) (pm_one (pm_callB (cr_all rfl) rc_all (by rfl) G.b_all (by decide +kernel) (am_cons (PM.toB (pm_comp (own := [("k", 2)]) rfl S.nd (im_range1 (by rfl) G.b_range (am_cons (PM.toB (pm_callB (call_lenU) rc_len (by rfl) G.b_len (by decide +kernel) (am_cons (bm_var 0 (pv 0)) (am_nil)))) (am_nil))) (blkOk_by (own := [("k", 2)]) (N := ["a", "b", "k"]) (sc := defScope s__law_same) (by decide +kernel)) (fun _ _ _ _ _ => gm_name 2 S.nd rfl (by first | exact Or.inl rfl | exact Or.inr rfl)) (fun _ _ _ _ _ => ts_nil) (fun _ _ _ _ _ => pm_call F_self hr (by rfl) (cm_cons (pm_ix ix_seq rv_ix (bm_var 0 (pv 0)) (bm_var 2 (pv 2)) (fun _ _ => rfl)) (cm_cons (pm_ix ix_seq rv_ix (bm_var 1 (pv 1)) (bm_var 2 (pv 2)) (fun _ _ => rfl)) (cm_nil)))) (by decide))) (am_nil))))))) (ssm_nil)) (ssm_cons (sm_if (WM.toT (wm_or (tm_tru (PM.toB (pm_isi .tBool (by rfl) G.b_isinstance (by decide +kernel) (by rfl) G.b_bool (by decide +kernel) (bm_var 0 (pv 0)))) (fun _ => rfl)) (wm_or1 (tm_tru (PM.toB (pm_isi .tBool (by rfl) G.b_isinstance (by decide +kernel) (by rfl) G.b_bool (by decide +kernel) (bm_var 1 (pv 1)))) (fun _ => rfl))))) (ssm_one (sm_ret (pm_and (pm_isi .tBool (by rfl) G.b_isinstance (by decide +kernel) (by rfl) G.b_bool (by decide +kernel) (bm_var 0 (pv 0))) (pm_and (pm_isi .tBool (by rfl) G.b_isinstance (by decide +kernel) (by rfl) G.b_bool (by decide +kernel) (bm_var 1 (pv 1))) (pm_one (pm_cmp (op_eqD (u64_of hr)) rv_eq (bm_var 0 (pv 0)) (bm_var 1 (pv 1)) (by first | exact nobehind _ (by decide) (by decide) | rfl))))))) (ssm_nil)) (ssm_cons (sm_if (WM.toT (wm_or (WM.toT (wm_and (tm_tru (PM.toB (pm_isi .tInt (by rfl) G.b_isinstance (by decide +kernel) (by rfl) G.b_int (by decide +kernel) (bm_var 0 (pv 0)))) (fun _ => rfl)) (wm_and1 (tm_tru (PM.toB (pm_isi .tInt (by rfl) G.b_isinstance (by decide +kernel) (by rfl) G.b_int (by decide +kernel) (bm_var 1 (pv 1)))) (fun _ => rfl))))) (wm_or1 (WM.toT (wm_and (tm_tru (PM.toB (pm_isi .tStr (by rfl) G.b_isinstance (by decide +kernel) (by rfl) G.b_str (by decide +kernel) (bm_var 0 (pv 0)))) (fun _ => rfl)) (wm_and1 (tm_tru (PM.toB (pm_isi .tStr (by rfl) G.b_isinstance (by decide +kernel) (by rfl) G.b_str (by decide +kernel) (bm_var 1 (pv 1)))) (fun _ => rfl)))))))) (ssm_one (sm_ret (pm_cmp (op_eqD (u64_of hr)) rv_eq (bm_var 0 (pv 0)) (bm_var 1 (pv 1)) (by first | exact nobehind _ (by decide) (by decide) | rfl)))) (ssm_nil)) (ssm_one (sm_ret (pm_and (pm_cmp op_isU rv_is (bm_var 0 (pv 0)) (PM.toB (pm_non)) (by first | exact nobehind _ (by decide) (by decide) | rfl)) (pm_one (pm_cmp op_isU rv_is (bm_var 1 (pv 1)) (PM.toB (pm_non)) (by first | exact nobehind _ (by decide) (by decide) | rfl))))))))
def f__law_same : List D → Option D := r__law_same 4
/-! ### _law_history -/
abbrev s__law_history : Stmt := top 83
theorem sc__law_history : FnScope ["put", "read", "early"] [] (defScope s__law_history) := ⟨rfl, rfl, rfl, by decide +kernel, rfl, by decide +kernel, by decide +kernel⟩
def b__law_history : En → Option Fl := mSeq (mAsg (mTup (cCons (mC (.int 1)) (cCons (mC (.int 4)) (cCons (mC (.str "done")) (cCons (mC (.str "serial")) (cCons (mTup (cCons (mTup (cCons (mC (.str "put")) (cCons (mC (.str "a")) (cCons (mC (.str "x")) (cNil))))) (cNil))) (cCons (mTup (cCons (mC (.bl true)) (cNil))) (cNil)))))))) (fName 0)) (mSeq (mAsg (mTup (cCons (mC (.int 5)) (cCons (mC (.int 8)) (cCons (mC (.str "done")) (cCons (mC (.str "serial")) (cCons (mTup (cCons (mTup (cCons (mC (.str "get")) (cCons (mC (.str "a")) (cNil)))) (cNil))) (cCons (mTup (cCons (mC (.str "x")) (cNil))) (cNil)))))))) (fName 1)) (mSeq (mAsg (mTup (cCons (mC (.int 0)) (cCons (mC (.int 9)) (cCons (mC (.str "done")) (cCons (mC (.str "serial")) (cCons (mTup (cCons (mTup (cCons (mC (.str "get")) (cCons (mC (.str "a")) (cNil)))) (cNil))) (cCons (mTup (cCons (mC .non) (cNil))) (cNil)))))))) (fName 2)) (mRet (mTup (cCons (mVar 0) (cCons (mVar 1) (cCons (mVar 2) (cNil))))))))
def f__law_history : List D → Option D := mfOf 3 b__law_history
theorem d__law_history (G : Gs K mg)  : Df P w K mg base 1 "_law_history" 0 f__law_history := by
    have S := sc__law_history
    exact df_mk G.d__law_history sc__law_history rfl (fun _ _ _ _ _ _ us hl => match us, hl with | [], _ => rfl) fun f cdv A outer s H E hr => ssm_cons (sm_set 0 (pm_tup (cm_cons (pm_int) (cm_cons (pm_int) (cm_cons (pm_str) (cm_cons (pm_str) (cm_cons (pm_tup (cm_cons (pm_tup (cm_cons (pm_str) (cm_cons (pm_str) (cm_cons (pm_str) (cm_nil))))) (cm_nil))) (cm_cons (pm_tup (cm_cons (pm_bl) (cm_nil))) (cm_nil)))))))) S.nd rfl (by first | exact Or.inl rfl | exact Or.inr rfl)) (ssm_cons (sm_set 1 (pm_tup (cm_cons (pm_int) (cm_cons (pm_int) (cm_cons (pm_str) (cm_cons (pm_str) (cm_cons (pm_tup (cm_cons (pm_tup (cm_cons (pm_str) (cm_cons (pm_str) (cm_nil)))) (cm_nil))) (cm_cons (pm_tup (cm_cons (pm_str) (cm_nil))) (cm_nil)))))))) S.nd rfl (by first | exact Or.inl rfl | exact Or.inr rfl)) (ssm_cons (sm_set 2 (pm_tup (cm_cons (pm_int) (cm_cons (pm_int) (cm_cons (pm_str) (cm_cons (pm_str) (cm_cons (pm_tup (cm_cons (pm_tup (cm_cons (pm_str) (cm_cons (pm_str) (cm_nil)))) (cm_nil))) (cm_cons (pm_tup (cm_cons (pm_non) (cm_nil))) (cm_nil)))))))) S.nd rfl (by first | exact Or.inl rfl | exact Or.inr rfl)) (ssm_one (sm_ret (pm_tup (cm_cons (pm_var 0 (pv 0)) (cm_cons (pm_var 1 (pv 1)) (cm_cons (pm_var 2 (pv 2)) (cm_nil)))))))))
/-! ### _law_odd -/
abbrev s__law_odd : Stmt := top 84
theorem sc__law_odd : FnScope [] [] (defScope s__law_odd) := ⟨rfl, rfl, rfl, by decide +kernel, rfl, by decide +kernel, by decide +kernel⟩
def b__law_odd : En → Option Fl := mRet (mTup (cCons (mTup (cCons (mC (.int 0)) (cCons (mC (.int 5)) (cCons (mC (.str "done")) (cCons (mC (.str "serial")) (cCons (mTup (cCons (mTup (cCons (mC (.str "put")) (cCons (mC (.str "a")) (cCons (mC (.str "x")) (cNil))))) (cCons (mTup (cCons (mC (.str "get")) (cCons (mC (.str "b")) (cNil)))) (cNil)))) (cCons (mTup (cCons (mC (.bl true)) (cCons (mC (.str "y")) (cNil)))) (cNil)))))))) (cCons (mTup (cCons (mC (.int 1)) (cCons (mC (.int 6)) (cCons (mC (.str "done")) (cCons (mC (.str "serial")) (cCons (mTup (cCons (mTup (cCons (mC (.str "get")) (cCons (mC (.str "a")) (cNil)))) (cCons (mTup (cCons (mC (.str "put")) (cCons (mC (.str "b")) (cCons (mC (.str "y")) (cNil))))) (cNil)))) (cCons (mTup (cCons (mC (.str "x")) (cCons (mC (.bl true)) (cNil)))) (cNil)))))))) (cNil))))
def f__law_odd : List D → Option D := mfOf 0 b__law_odd
theorem d__law_odd (G : Gs K mg)  : Df P w K mg base 1 "_law_odd" 0 f__law_odd := by
    have S := sc__law_odd
    exact df_mk G.d__law_odd sc__law_odd rfl (fun _ _ _ _ _ _ us hl => match us, hl with | [], _ => rfl) fun f cdv A outer s H E hr => ssm_one (sm_ret (pm_tup (cm_cons (pm_tup (cm_cons (pm_int) (cm_cons (pm_int) (cm_cons (pm_str) (cm_cons (pm_str) (cm_cons (pm_tup (cm_cons (pm_tup (cm_cons (pm_str) (cm_cons (pm_str) (cm_cons (pm_str) (cm_nil))))) (cm_cons (pm_tup (cm_cons (pm_str) (cm_cons (pm_str) (cm_nil)))) (cm_nil)))) (cm_cons (pm_tup (cm_cons (pm_bl) (cm_cons (pm_str) (cm_nil)))) (cm_nil)))))))) (cm_cons (pm_tup (cm_cons (pm_int) (cm_cons (pm_int) (cm_cons (pm_str) (cm_cons (pm_str) (cm_cons (pm_tup (cm_cons (pm_tup (cm_cons (pm_str) (cm_cons (pm_str) (cm_nil)))) (cm_cons (pm_tup (cm_cons (pm_str) (cm_cons (pm_str) (cm_cons (pm_str) (cm_nil))))) (cm_nil)))) (cm_cons (pm_tup (cm_cons (pm_str) (cm_cons (pm_bl) (cm_nil)))) (cm_nil)))))))) (cm_nil)))))
/-! ### _law_kinds -/
abbrev s__law_kinds : Stmt := top 85
theorem sc__law_kinds : FnScope ["told"] [] (defScope s__law_kinds) := ⟨rfl, rfl, rfl, by decide +kernel, rfl, by decide +kernel, by decide +kernel⟩
def b__law_kinds : En → Option Fl := mSeq (mAsg (mDct ["explained", "unexplained", "never fewer", "can be read"] (aCons (mC (.str "h")) (aCons (mC (.str "h")) (aCons (mC (.str "fcr")) (aCons (mC (.str "fcr")) (aNil)))))) (fName 0)) (mRet (mTup (cCons (mVar 0) (cCons (mDct ["explain", "fewest", "read"] (aCons (mC (.str "h")) (aCons (mC (.str "fc")) (aCons (mC (.str "fc")) (aNil))))) (cNil)))))
def f__law_kinds : List D → Option D := mfOf 1 b__law_kinds
theorem d__law_kinds (G : Gs K mg)  : Df P w K mg base 1 "_law_kinds" 0 f__law_kinds := by
    have S := sc__law_kinds
    exact df_mk G.d__law_kinds sc__law_kinds rfl (fun _ _ _ _ _ _ us hl => match us, hl with | [], _ => rfl) fun f cdv A outer s H E hr => ssm_cons (sm_set 0 (pm_dct (ks := ["explained", "unexplained", "never fewer", "can be read"]) (km_cons (pm_str) (km_cons (pm_str) (km_cons (pm_str) (km_cons (pm_str) (km_nil))))) rfl rfl (by simp) (by decide) (by decide) (by decide +kernel)) S.nd rfl (by first | exact Or.inl rfl | exact Or.inr rfl)) (ssm_one (sm_ret (pm_tup (cm_cons (pm_var 0 (pv 0)) (cm_cons (pm_dct (ks := ["explain", "fewest", "read"]) (km_cons (pm_str) (km_cons (pm_str) (km_cons (pm_str) (km_nil)))) rfl rfl (by simp) (by decide) (by decide) (by decide +kernel)) (cm_nil))))))
/-! ### _law_good -/
abbrev s__law_good : Stmt := top 86
theorem sc__law_good : FnScope [] [] (defScope s__law_good) := ⟨rfl, rfl, rfl, by decide +kernel, rfl, by decide +kernel, by decide +kernel⟩
def b__law_good : En → Option Fl := mRet (mDct ["h", "f", "c", "r"] (aCons (mLst (cCons ((fun _ => lift (f__law_history []))) (cCons (mTup (cNil)) (cNil)))) (aCons (mLst (cCons (mC (.int 1)) (cCons (mC (.int 1000)) (cNil)))) (aCons (mLst (cCons (mTup (cNil)) (cCons (mTup (cCons (mC (.int 1)) (cCons (mC (.int 2)) (cCons (mC (.int 1)) (cNil))))) (cCons (mOp pMul (mTup (cCons (mC (.int 7)) (cNil))) (mC (.int 120))) (cNil))))) (aCons (mLst (cCons (mC (.int 0)) (cNil))) (aNil))))))
def f__law_good : List D → Option D := mfOf 0 b__law_good
theorem d__law_good (G : Gs K mg) (F__law_history : Df P w K mg base 1 "_law_history" 0 f__law_history) : Df P w K mg base 2 "_law_good" 0 f__law_good := by
    have S := sc__law_good
    exact df_mk G.d__law_good sc__law_good rfl (fun _ _ _ _ _ _ us hl => match us, hl with | [], _ => rfl) fun f cdv A outer s H E hr => ssm_one (sm_ret (pm_dct (ks := ["h", "f", "c", "r"]) (km_cons (pm_lst (cm_cons (pm_call0 F__law_history hr (by rfl)) (cm_cons (pm_tup (cm_nil)) (cm_nil)))) (km_cons (pm_lst (cm_cons (pm_int) (cm_cons (pm_int) (cm_nil)))) (km_cons (pm_lst (cm_cons (pm_tup (cm_nil)) (cm_cons (pm_tup (cm_cons (pm_int) (cm_cons (pm_int) (cm_cons (pm_int) (cm_nil))))) (cm_cons (pm_op op_mulU rv_mul (PM.toB (pm_tup (cm_cons (pm_int) (cm_nil)))) (PM.toB (pm_int))) (cm_nil))))) (km_cons (pm_lst (cm_cons (pm_int) (cm_nil))) (km_nil))))) rfl rfl (by simp) (by decide) (by decide) (by decide +kernel)))
/-! ### _law_bad -/
abbrev s__law_bad : Stmt := top 87
theorem sc__law_bad : FnScope ["one"] [] (defScope s__law_bad) := ⟨rfl, rfl, rfl, by decide +kernel, rfl, by decide +kernel, by decide +kernel⟩
def b__law_bad : En → Option Fl := mSeq (mAsg (mOp pIx ((fun _ => lift (f__law_history []))) (mC (.int 0))) (fName 0)) (mRet (mDct ["h", "f", "c", "r"] (aCons (mLst (cCons (mC .non) (cCons (mTup (cCons (mC .non) (cNil))) (cCons (mTup (cCons (mSl (mVarB 0) (mNoPart) (mPart (mC (.int 5)))) (cNil))) (cCons (mTup (cCons (mOp pAdd (mTup (cCons (mC (.int 4)) (cCons (mC (.int 1)) (cNil)))) (mSl (mVarB 0) (mPart (mC (.int 2))) (mNoPart))) (cNil))) (cCons (mTup (cCons (mVar 0) (cCons (mVar 0) (cNil)))) (cNil))))))) (aCons (mLst (cCons (mC (.int 0)) (cCons (mC (.int 1001)) (cCons (mC (.bl true)) (cCons (mC .non) (cCons (mC (.str "2")) (cNil))))))) (aCons (mLst (cCons (mC .non) (cCons (mTup (cCons (mC (.int 0)) (cNil))) (cCons (mTup (cCons (mC (.bl true)) (cNil))) (cCons (mOp pMul (mTup (cCons (mC (.int 1)) (cNil))) (mC (.int 121))) (cCons (mC (.str "12")) (cNil))))))) (aCons (mLst (cCons (mNeg (mC (.int 1))) (cCons (mC (.int 500)) (cCons (mC .non) (cCons (mC (.bl true)) (cNil)))))) (aNil)))))))
def f__law_bad : List D → Option D := mfOf 1 b__law_bad
theorem d__law_bad (G : Gs K mg) (F__law_history : Df P w K mg base 1 "_law_history" 0 f__law_history) : Df P w K mg base 2 "_law_bad" 0 f__law_bad := by
    have S := sc__law_bad
    exact df_mk G.d__law_bad sc__law_bad rfl (fun _ _ _ _ _ _ us hl => match us, hl with | [], _ => rfl) fun f cdv A outer s H E hr => ssm_cons (sm_set 0 (pm_ix ix_seq rv_ix (PM.toB (pm_call0 F__law_history hr (by rfl))) (PM.toB (pm_int)) (fun _ _ => rfl)) S.nd rfl (by first | exact Or.inl rfl | exact Or.inr rfl)) (ssm_one (sm_ret (pm_dct (ks := ["h", "f", "c", "r"]) (km_cons (pm_lst (cm_cons (pm_non) (cm_cons (pm_tup (cm_cons (pm_non) (cm_nil))) (cm_cons (pm_tup (cm_cons (pm_sl (sl_list.or (sl_tupA.or sl_str)) (bm_var 0 (pv 0)) (om_none) (om_some (pm_int))) (cm_nil))) (cm_cons (pm_tup (cm_cons (pm_op op_addU rv_add (PM.toB (pm_tup (cm_cons (pm_int) (cm_cons (pm_int) (cm_nil))))) (PM.toB (pm_sl (sl_list.or (sl_tupA.or sl_str)) (bm_var 0 (pv 0)) (om_some (pm_int)) (om_none)))) (cm_nil))) (cm_cons (pm_tup (cm_cons (pm_var 0 (pv 0)) (cm_cons (pm_var 0 (pv 0)) (cm_nil)))) (cm_nil))))))) (km_cons (pm_lst (cm_cons (pm_int) (cm_cons (pm_int) (cm_cons (pm_bl) (cm_cons (pm_non) (cm_cons (pm_str) (cm_nil))))))) (km_cons (pm_lst (cm_cons (pm_non) (cm_cons (pm_tup (cm_cons (pm_int) (cm_nil))) (cm_cons (pm_tup (cm_cons (pm_bl) (cm_nil))) (cm_cons (pm_op op_mulU rv_mul (PM.toB (pm_tup (cm_cons (pm_int) (cm_nil)))) (PM.toB (pm_int))) (cm_cons (pm_str) (cm_nil))))))) (km_cons (pm_lst (cm_cons (pm_neg pm_int) (cm_cons (pm_int) (cm_cons (pm_non) (cm_cons (pm_bl) (cm_nil)))))) (km_nil))))) rfl rfl (by simp) (by decide) (by decide) (by decide +kernel))))
/-! ### _law_rows -/
abbrev s__law_rows : Stmt := top 88
theorem sc__law_rows : FnScope ["good", "odd", "course", "rows"] [] (defScope s__law_rows) := ⟨rfl, rfl, rfl, by decide +kernel, rfl, by decide +kernel, by decide +kernel⟩
def b__law_rows : En → Option Fl := mSeq (mPar3 0 1 2 (nSh ((fun _ => lift (f__law_history [])))) (nSh ((fun _ => lift (f__law_odd [])))) (nSh (mTup (cCons (mC (.int 1)) (cCons (mC (.int 2)) (cCons (mC (.int 3)) (cCons (mC (.int 1)) (cCons (mC (.int 2)) (cCons (mC (.int 3)) (cNil)))))))))) (mSeq (mAsg (mLst (cCons (mTup (cCons (mTup (cCons (mC (.str "explained")) (cCons (mVar 0) (cNil)))) (cCons (mTup (cCons (mC (.int 2)) (cCons (mC (.int 0)) (cCons (mC (.int 1)) (cNil))))) (cCons (mC (.bl true)) (cNil))))) (cCons (mTup (cCons (mTup (cCons (mC (.str "explained")) (cCons (mVar 0) (cNil)))) (cCons (mTup (cCons (mC (.int 0)) (cCons (mC (.int 1)) (cCons (mC (.int 2)) (cNil))))) (cCons (mC (.bl false)) (cNil))))) (cCons (mTup (cCons (mTup (cCons (mC (.str "explained")) (cCons (mVar 0) (cNil)))) (cCons (mTup (cCons (mC (.int 2)) (cCons (mC (.int 0)) (cNil)))) (cCons (mC (.bl false)) (cNil))))) (cCons (mTup (cCons (mTup (cCons (mC (.str "explained")) (cCons (mVar 0) (cNil)))) (cCons (mTup (cCons (mC (.int 0)) (cCons (mC (.int 2)) (cCons (mC (.int 1)) (cNil))))) (cCons (mC (.bl false)) (cNil))))) (cCons (mTup (cCons (mTup (cCons (mC (.str "explained")) (cCons (mTup (cNil)) (cNil)))) (cCons (mTup (cNil)) (cCons (mC (.bl true)) (cNil))))) (cCons (mTup (cCons (mTup (cCons (mC (.str "explained")) (cCons (mVar 0) (cNil)))) (cCons (mTup (cCons (mC (.int 2)) (cCons (mC (.int 1)) (cCons (mC (.int 0)) (cNil))))) (cCons (mC (.bl false)) (cNil))))) (cNil)))))))) (fName 3)) (mSeq (mAsg (mOp pAdd (mVarB 3) (mLst (cCons (mTup (cCons (mTup (cCons (mC (.str "unexplained")) (cCons (mVar 1) (cNil)))) (cCons (mTup (cCons (mTup (cNil)) (cNil))) (cCons (mC (.bl true)) (cNil))))) (cCons (mTup (cCons (mTup (cCons (mC (.str "unexplained")) (cCons (mVar 1) (cNil)))) (cCons (mTup (cNil)) (cCons (mC (.bl false)) (cNil))))) (cCons (mTup (cCons (mTup (cCons (mC (.str "unexplained")) (cCons (mVar 0) (cNil)))) (cCons (mTup (cCons (mTup (cNil)) (cCons (mTup (cCons (mC (.int 2)) (cNil))) (cNil)))) (cCons (mC (.bl false)) (cNil))))) (cCons (mTup (cCons (mTup (cCons (mC (.str "unexplained")) (cCons (mVar 0) (cNil)))) (cCons (mTup (cCons (mTup (cNil)) (cNil))) (cCons (mC (.bl false)) (cNil))))) (cCons (mTup (cCons (mTup (cCons (mC (.str "explained")) (cCons (mVar 1) (cNil)))) (cCons (mTup (cCons (mC (.int 0)) (cCons (mC (.int 1)) (cNil)))) (cCons (mC (.bl false)) (cNil))))) (cCons (mTup (cCons (mTup (cCons (mC (.str "explained")) (cCons (mVar 1) (cNil)))) (cCons (mTup (cCons (mC (.int 1)) (cCons (mC (.int 0)) (cNil)))) (cCons (mC (.bl false)) (cNil))))) (cNil))))))))) (fName 3)) (mSeq (mAsg (mOp pAdd (mVarB 3) (mLst (cCons (mTup (cCons (mTup (cCons (mC (.str "can be read")) (cCons (mC (.int 2)) (cCons (mVar 2) (cCons (mC (.int 4)) (cNil)))))) (cCons (mTup (cCons (mC (.int 2)) (cCons (mC (.int 1)) (cNil)))) (cCons (mC (.bl true)) (cNil))))) (cCons (mTup (cCons (mTup (cCons (mC (.str "can be read")) (cCons (mC (.int 2)) (cCons (mVar 2) (cCons (mC (.int 3)) (cNil)))))) (cCons (mTup (cCons (mC (.int 2)) (cCons (mC (.int 1)) (cNil)))) (cCons (mC (.bl false)) (cNil))))) (cCons (mTup (cCons (mTup (cCons (mC (.str "can be read")) (cCons (mC (.int 2)) (cCons (mVar 2) (cCons (mC (.int 6)) (cNil)))))) (cCons (mTup (cCons (mC (.int 1)) (cCons (mC (.int 2)) (cCons (mC (.int 3)) (cCons (mC (.int 1)) (cNil)))))) (cCons (mC (.bl true)) (cNil))))) (cCons (mTup (cCons (mTup (cCons (mC (.str "can be read")) (cCons (mC (.int 2)) (cCons (mVar 2) (cCons (mC (.int 5)) (cNil)))))) (cCons (mTup (cCons (mC (.int 1)) (cCons (mC (.int 2)) (cCons (mC (.int 3)) (cCons (mC (.int 1)) (cNil)))))) (cCons (mC (.bl false)) (cNil))))) (cCons (mTup (cCons (mTup (cCons (mC (.str "can be read")) (cCons (mC (.int 3)) (cCons (mVar 2) (cCons (mC (.int 3)) (cNil)))))) (cCons (mTup (cNil)) (cCons (mC (.bl true)) (cNil))))) (cCons (mTup (cCons (mTup (cCons (mC (.str "can be read")) (cCons (mC (.int 3)) (cCons (mVar 2) (cCons (mC (.int 3)) (cNil)))))) (cCons (mTup (cCons (mC (.int 1)) (cNil))) (cCons (mC (.bl false)) (cNil))))) (cCons (mTup (cCons (mTup (cCons (mC (.str "can be read")) (cCons (mC (.int 2)) (cCons (mVar 2) (cCons (mC (.int 4)) (cNil)))))) (cCons (mTup (cCons (mC (.int 2)) (cNil))) (cCons (mC (.bl false)) (cNil))))) (cCons (mTup (cCons (mTup (cCons (mC (.str "can be read")) (cCons (mC (.int 2)) (cCons (mVar 2) (cCons (mC (.int 4)) (cNil)))))) (cCons (mTup (cCons (mC (.int 9)) (cCons (mC (.int 1)) (cNil)))) (cCons (mC (.bl false)) (cNil))))) (cCons (mTup (cCons (mTup (cCons (mC (.str "can be read")) (cCons (mC (.int 1)) (cCons (mTup (cNil)) (cCons (mC (.int 0)) (cNil)))))) (cCons (mTup (cNil)) (cCons (mC (.bl true)) (cNil))))) (cNil)))))))))))) (fName 3)) (mRet (mOp pAdd (mVarB 3) (mLst (cCons (mTup (cCons (mTup (cCons (mC (.str "never fewer")) (cCons (mC (.int 3)) (cCons (mVar 2) (cCons (mC (.int 3)) (cNil)))))) (cCons (mTup (cNil)) (cCons (mC (.bl true)) (cNil))))) (cCons (mTup (cCons (mTup (cCons (mC (.str "never fewer")) (cCons (mC (.int 3)) (cCons (mVar 2) (cCons (mC (.int 4)) (cNil)))))) (cCons (mTup (cNil)) (cCons (mC (.bl false)) (cNil))))) (cCons (mTup (cCons (mTup (cCons (mC (.str "never fewer")) (cCons (mC (.int 2)) (cCons (mVar 2) (cCons (mC (.int 0)) (cNil)))))) (cCons (mTup (cNil)) (cCons (mC (.bl true)) (cNil))))) (cCons (mTup (cCons (mTup (cCons (mC (.str "never fewer")) (cCons (mC (.int 1)) (cCons (mTup (cCons (mC (.int 5)) (cCons (mC (.int 5)) (cCons (mC (.int 5)) (cNil))))) (cCons (mC (.int 1)) (cNil)))))) (cCons (mTup (cNil)) (cCons (mC (.bl true)) (cNil))))) (cCons (mTup (cCons (mTup (cCons (mC (.str "never fewer")) (cCons (mC (.int 1)) (cCons (mTup (cCons (mC (.int 5)) (cCons (mC (.int 5)) (cCons (mC (.int 5)) (cNil))))) (cCons (mC (.int 2)) (cNil)))))) (cCons (mTup (cNil)) (cCons (mC (.bl false)) (cNil))))) (cCons (mTup (cCons (mTup (cCons (mC (.str "never fewer")) (cCons (mC (.int 2)) (cCons (mVar 2) (cCons (mC (.int 6)) (cNil)))))) (cCons (mTup (cCons (mC (.int 1)) (cCons (mC (.int 2)) (cCons (mC (.int 3)) (cCons (mC (.int 4)) (cNil)))))) (cCons (mC (.bl false)) (cNil))))) (cNil)))))))))))))
def f__law_rows : List D → Option D := mfOf 4 b__law_rows
theorem d__law_rows (G : Gs K mg) (F__law_history : Df P w K mg base 1 "_law_history" 0 f__law_history) (F__law_odd : Df P w K mg base 1 "_law_odd" 0 f__law_odd) : Df P w K mg base 2 "_law_rows" 0 f__law_rows := by
    have S := sc__law_rows
    exact df_mk G.d__law_rows sc__law_rows rfl (fun _ _ _ _ _ _ us hl => match us, hl with | [], _ => rfl) fun f cdv A outer s H E hr => ssm_cons (sm_par3 0 1 2 rfl S.nd rfl rfl rfl (by decide) (by decide) (by decide) rfl rfl rfl (nm_sh (pm_call0 F__law_history hr (by rfl))) (nm_sh (pm_call0 F__law_odd hr (by rfl))) (nm_sh (pm_tup (cm_cons (pm_int) (cm_cons (pm_int) (cm_cons (pm_int) (cm_cons (pm_int) (cm_cons (pm_int) (cm_cons (pm_int) (cm_nil))))))))) rfl) (ssm_cons (sm_set 3 (pm_lst (cm_cons (pm_tup (cm_cons (pm_tup (cm_cons (pm_str) (cm_cons (pm_var 0 (pv 0)) (cm_nil)))) (cm_cons (pm_tup (cm_cons (pm_int) (cm_cons (pm_int) (cm_cons (pm_int) (cm_nil))))) (cm_cons (pm_bl) (cm_nil))))) (cm_cons (pm_tup (cm_cons (pm_tup (cm_cons (pm_str) (cm_cons (pm_var 0 (pv 0)) (cm_nil)))) (cm_cons (pm_tup (cm_cons (pm_int) (cm_cons (pm_int) (cm_cons (pm_int) (cm_nil))))) (cm_cons (pm_bl) (cm_nil))))) (cm_cons (pm_tup (cm_cons (pm_tup (cm_cons (pm_str) (cm_cons (pm_var 0 (pv 0)) (cm_nil)))) (cm_cons (pm_tup (cm_cons (pm_int) (cm_cons (pm_int) (cm_nil)))) (cm_cons (pm_bl) (cm_nil))))) (cm_cons (pm_tup (cm_cons (pm_tup (cm_cons (pm_str) (cm_cons (pm_var 0 (pv 0)) (cm_nil)))) (cm_cons (pm_tup (cm_cons (pm_int) (cm_cons (pm_int) (cm_cons (pm_int) (cm_nil))))) (cm_cons (pm_bl) (cm_nil))))) (cm_cons (pm_tup (cm_cons (pm_tup (cm_cons (pm_str) (cm_cons (pm_tup (cm_nil)) (cm_nil)))) (cm_cons (pm_tup (cm_nil)) (cm_cons (pm_bl) (cm_nil))))) (cm_cons (pm_tup (cm_cons (pm_tup (cm_cons (pm_str) (cm_cons (pm_var 0 (pv 0)) (cm_nil)))) (cm_cons (pm_tup (cm_cons (pm_int) (cm_cons (pm_int) (cm_cons (pm_int) (cm_nil))))) (cm_cons (pm_bl) (cm_nil))))) (cm_nil)))))))) S.nd rfl (by first | exact Or.inl rfl | exact Or.inr rfl)) (ssm_cons (sm_set 3 (pm_op op_addU rv_add (bm_var 3 (pv 3)) (PM.toB (pm_lst (cm_cons (pm_tup (cm_cons (pm_tup (cm_cons (pm_str) (cm_cons (pm_var 1 (pv 1)) (cm_nil)))) (cm_cons (pm_tup (cm_cons (pm_tup (cm_nil)) (cm_nil))) (cm_cons (pm_bl) (cm_nil))))) (cm_cons (pm_tup (cm_cons (pm_tup (cm_cons (pm_str) (cm_cons (pm_var 1 (pv 1)) (cm_nil)))) (cm_cons (pm_tup (cm_nil)) (cm_cons (pm_bl) (cm_nil))))) (cm_cons (pm_tup (cm_cons (pm_tup (cm_cons (pm_str) (cm_cons (pm_var 0 (pv 0)) (cm_nil)))) (cm_cons (pm_tup (cm_cons (pm_tup (cm_nil)) (cm_cons (pm_tup (cm_cons (pm_int) (cm_nil))) (cm_nil)))) (cm_cons (pm_bl) (cm_nil))))) (cm_cons (pm_tup (cm_cons (pm_tup (cm_cons (pm_str) (cm_cons (pm_var 0 (pv 0)) (cm_nil)))) (cm_cons (pm_tup (cm_cons (pm_tup (cm_nil)) (cm_nil))) (cm_cons (pm_bl) (cm_nil))))) (cm_cons (pm_tup (cm_cons (pm_tup (cm_cons (pm_str) (cm_cons (pm_var 1 (pv 1)) (cm_nil)))) (cm_cons (pm_tup (cm_cons (pm_int) (cm_cons (pm_int) (cm_nil)))) (cm_cons (pm_bl) (cm_nil))))) (cm_cons (pm_tup (cm_cons (pm_tup (cm_cons (pm_str) (cm_cons (pm_var 1 (pv 1)) (cm_nil)))) (cm_cons (pm_tup (cm_cons (pm_int) (cm_cons (pm_int) (cm_nil)))) (cm_cons (pm_bl) (cm_nil))))) (cm_nil)))))))))) S.nd rfl (by first | exact Or.inl rfl | exact Or.inr rfl)) (ssm_cons (sm_set 3 (pm_op op_addU rv_add (bm_var 3 (pv 3)) (PM.toB (pm_lst (cm_cons (pm_tup (cm_cons (pm_tup (cm_cons (pm_str) (cm_cons (pm_int) (cm_cons (pm_var 2 (pv 2)) (cm_cons (pm_int) (cm_nil)))))) (cm_cons (pm_tup (cm_cons (pm_int) (cm_cons (pm_int) (cm_nil)))) (cm_cons (pm_bl) (cm_nil))))) (cm_cons (pm_tup (cm_cons (pm_tup (cm_cons (pm_str) (cm_cons (pm_int) (cm_cons (pm_var 2 (pv 2)) (cm_cons (pm_int) (cm_nil)))))) (cm_cons (pm_tup (cm_cons (pm_int) (cm_cons (pm_int) (cm_nil)))) (cm_cons (pm_bl) (cm_nil))))) (cm_cons (pm_tup (cm_cons (pm_tup (cm_cons (pm_str) (cm_cons (pm_int) (cm_cons (pm_var 2 (pv 2)) (cm_cons (pm_int) (cm_nil)))))) (cm_cons (pm_tup (cm_cons (pm_int) (cm_cons (pm_int) (cm_cons (pm_int) (cm_cons (pm_int) (cm_nil)))))) (cm_cons (pm_bl) (cm_nil))))) (cm_cons (pm_tup (cm_cons (pm_tup (cm_cons (pm_str) (cm_cons (pm_int) (cm_cons (pm_var 2 (pv 2)) (cm_cons (pm_int) (cm_nil)))))) (cm_cons (pm_tup (cm_cons (pm_int) (cm_cons (pm_int) (cm_cons (pm_int) (cm_cons (pm_int) (cm_nil)))))) (cm_cons (pm_bl) (cm_nil))))) (cm_cons (pm_tup (cm_cons (pm_tup (cm_cons (pm_str) (cm_cons (pm_int) (cm_cons (pm_var 2 (pv 2)) (cm_cons (pm_int) (cm_nil)))))) (cm_cons (pm_tup (cm_nil)) (cm_cons (pm_bl) (cm_nil))))) (cm_cons (pm_tup (cm_cons (pm_tup (cm_cons (pm_str) (cm_cons (pm_int) (cm_cons (pm_var 2 (pv 2)) (cm_cons (pm_int) (cm_nil)))))) (cm_cons (pm_tup (cm_cons (pm_int) (cm_nil))) (cm_cons (pm_bl) (cm_nil))))) (cm_cons (pm_tup (cm_cons (pm_tup (cm_cons (pm_str) (cm_cons (pm_int) (cm_cons (pm_var 2 (pv 2)) (cm_cons (pm_int) (cm_nil)))))) (cm_cons (pm_tup (cm_cons (pm_int) (cm_nil))) (cm_cons (pm_bl) (cm_nil))))) (cm_cons (pm_tup (cm_cons (pm_tup (cm_cons (pm_str) (cm_cons (pm_int) (cm_cons (pm_var 2 (pv 2)) (cm_cons (pm_int) (cm_nil)))))) (cm_cons (pm_tup (cm_cons (pm_int) (cm_cons (pm_int) (cm_nil)))) (cm_cons (pm_bl) (cm_nil))))) (cm_cons (pm_tup (cm_cons (pm_tup (cm_cons (pm_str) (cm_cons (pm_int) (cm_cons (pm_tup (cm_nil)) (cm_cons (pm_int) (cm_nil)))))) (cm_cons (pm_tup (cm_nil)) (cm_cons (pm_bl) (cm_nil))))) (cm_nil))))))))))))) S.nd rfl (by first | exact Or.inl rfl | exact Or.inr rfl)) (ssm_one (sm_ret (pm_op op_addU rv_add (bm_var 3 (pv 3)) (PM.toB (pm_lst (cm_cons (pm_tup (cm_cons (pm_tup (cm_cons (pm_str) (cm_cons (pm_int) (cm_cons (pm_var 2 (pv 2)) (cm_cons (pm_int) (cm_nil)))))) (cm_cons (pm_tup (cm_nil)) (cm_cons (pm_bl) (cm_nil))))) (cm_cons (pm_tup (cm_cons (pm_tup (cm_cons (pm_str) (cm_cons (pm_int) (cm_cons (pm_var 2 (pv 2)) (cm_cons (pm_int) (cm_nil)))))) (cm_cons (pm_tup (cm_nil)) (cm_cons (pm_bl) (cm_nil))))) (cm_cons (pm_tup (cm_cons (pm_tup (cm_cons (pm_str) (cm_cons (pm_int) (cm_cons (pm_var 2 (pv 2)) (cm_cons (pm_int) (cm_nil)))))) (cm_cons (pm_tup (cm_nil)) (cm_cons (pm_bl) (cm_nil))))) (cm_cons (pm_tup (cm_cons (pm_tup (cm_cons (pm_str) (cm_cons (pm_int) (cm_cons (pm_tup (cm_cons (pm_int) (cm_cons (pm_int) (cm_cons (pm_int) (cm_nil))))) (cm_cons (pm_int) (cm_nil)))))) (cm_cons (pm_tup (cm_nil)) (cm_cons (pm_bl) (cm_nil))))) (cm_cons (pm_tup (cm_cons (pm_tup (cm_cons (pm_str) (cm_cons (pm_int) (cm_cons (pm_tup (cm_cons (pm_int) (cm_cons (pm_int) (cm_cons (pm_int) (cm_nil))))) (cm_cons (pm_int) (cm_nil)))))) (cm_cons (pm_tup (cm_nil)) (cm_cons (pm_bl) (cm_nil))))) (cm_cons (pm_tup (cm_cons (pm_tup (cm_cons (pm_str) (cm_cons (pm_int) (cm_cons (pm_var 2 (pv 2)) (cm_cons (pm_int) (cm_nil)))))) (cm_cons (pm_tup (cm_cons (pm_int) (cm_cons (pm_int) (cm_cons (pm_int) (cm_cons (pm_int) (cm_nil)))))) (cm_cons (pm_bl) (cm_nil))))) (cm_nil)))))))))))))))
end
end K70
set_option Elab.async false
set_option linter.all false
set_option maxRecDepth 100000
set_option maxHeartbeats 2000000
set_option autoImplicit false
namespace K70
open PySem PySem.Spec PyProof.Rows L2 Fm
open Evl (Ex ex_l ex_t ex_rd)
/-! ### draws -/
structure BxAt (H : Hp) (b c : Addr) (ns : List Int) (i j : Int) : Prop where
  ne : b ≠ c
  hb : H b = some (.lst [.ref c, .int i, .int j])
  hc : H c = some (.lst (ns.map V.int))
  i0 : 0 ≤ i
  j0 : 0 ≤ j
  few : ns.length ≤ 63
/-- nothing but the box changes -/
structure Kept (H : Hp) (b c : Addr) (H2 : Hp) : Prop where
  kp : ∀ a o, a ≠ b → a ≠ c → H a = some o → H2 a = some o
  lv : ∀ a, H a ≠ none → H2 a ≠ none
def spLoad : Sp := fun vs H Q _ => ∃ (b c : Addr) (ns : List Int) (i j : Int), vs = [.ref b] ∧ BxAt H b c ns i j ∧ ∀ (r : Int) (ns' : List Int) (j' : Int) (H2 : Hp), 0 ≤ r → BxAt H2 b c ns' i j' → Kept H b c H2 → Q (.int r) H2
def spDraw : Sp := fun vs H Q _ => ∃ (b c : Addr) (ns : List Int) (i j m : Int), vs = [.ref b, .int m] ∧ BxAt H b c ns i j ∧ (0 < m ∧ m < 1000000) ∧ ∀ (r : Int) (ns' : List Int) (i' j' : Int) (H2 : Hp), 0 ≤ r → r < m → BxAt H2 b c ns' i' j' → Kept H b c H2 → Q (.int r) H2
theorem Kept.refl {H : Hp} {b c : Addr} : Kept H b c H := ⟨fun _ _ _ _ e => e, fun _ e => e⟩
theorem Kept.trans {H H1 H2 : Hp} {b c : Addr} (x : Kept H b c H1) (y : Kept H1 b c H2) : Kept H b c H2 := ⟨fun a o n1 n2 e => y.kp a o n1 n2 (x.kp a o n1 n2 e), fun a e => y.lv a (x.lv a e)⟩
theorem Kept.at {H : Hp} {b c p : Addr} {o : HO} (h : p = b ∨ p = c) : Kept H b c (upd H p o) := by
  refine ⟨fun a u n1 n2 e => ?_, fun a n => ?_⟩
  · have : a ≠ p := by rcases h with h | h <;> (rw [h]; assumption)
    rw [upd_ne this]; exact e
  · by_cases z : a = p
    · rw [z, upd_same]; simp
    · rw [upd_ne z]; exact n
theorem BxAt.setI {H : Hp} {b c : Addr} {ns : List Int} {i j i' : Int} (B : BxAt H b c ns i j) (h : 0 ≤ i') : BxAt (upd H b (.lst ([V.ref c, .int i, .int j].set 1 (.int i')))) b c ns i' j := ⟨B.ne, upd_same, by rw [upd_ne (Ne.symm B.ne)]; exact B.hc, h, B.j0, B.few⟩
theorem BxAt.setJ {H : Hp} {b c : Addr} {ns : List Int} {i j j' : Int} (B : BxAt H b c ns i j) (h : 0 ≤ j') : BxAt (upd H b (.lst ([V.ref c, .int i, .int j].set 2 (.int j')))) b c ns i j' := ⟨B.ne, upd_same, by rw [upd_ne (Ne.symm B.ne)]; exact B.hc, B.i0, h, B.few⟩
section
variable {P : Program} {w : World} {K : PySem.W.Frag} {mg : Str → Option Value} {base : Heap}
abbrev sLoad : Stmt := top 80
abbrev sDraw : Stmt := top 81
theorem sc_load : FnScope ["box", "cells", "cell", "size", "first", "second"] ["box"] (defScope sLoad) := ⟨rfl, rfl, rfl, by decide +kernel, rfl, by decide +kernel, by decide +kernel⟩
theorem sc_draw : FnScope ["box", "many", "digit"] ["box", "many"] (defScope sDraw) := ⟨rfl, rfl, rfl, by decide +kernel, rfl, by decide +kernel, by decide +kernel⟩
theorem mod_nn {a b : Int} (h : 0 < b) : 0 ≤ a % b := Int.emod_nonneg a (by omega)
theorem ok_draw (G : Gs K mg) {fl f : Addr} {fdl fd : FuncData} (F : Fun K "_law_draw" "_law_draw" sDraw f fd) (GL : FnOk P w K mg base CX0 1 fl fdl ["box"] spLoad) (ml : mg "_law_load" = some (.ref fl)) (kl : PySem.W.keepIn K (.ref fl) = true) (bl : Binds K fdl ["box"] []) : FnOk P w K mg base CX0 2 f fd ["box", "many"] spDraw := by
  have S := sc_draw
  refine F.ok S (fun vs H Q E h => ?_) (fun cdv A outer s H vs Q E hr h => ?_)
  · obtain ⟨b, c, ns, i, j, m, rfl, _⟩ := h
    rfl
  · obtain ⟨b, c, ns, i, j, m, rfl, B, ⟨hm, hm2⟩, k⟩ := h
    refine ⟨_, pss_cons (ps_if (pt_cmpR op_lt (pe_ix ix_list (pv 0) pe_int (fun _ _ => rfl)) (pv 1) (nomark _)) (pss_one (ps_asg (pe_call (dvs := []) (E := fun _ _ _ => False) GL hr (by rfl) ml kl bl .nil pass0 (pa_cons (pv 0) pa_nil)) (pg_sub (pv 0) pe_int set_list))) pss_nil)
      (pss_cons (ps_set (i := 2) S.nd rfl (Or.inl rfl) (pe_op op_mod (pe_callTy call_int1 (by rfl) G.b_int (by decide +kernel) (pa_cons (pe_ix ix_list (pv 0) pe_int (fun _ _ => rfl)) pa_nil)) (pv 1)))
      (pss_cons (ps_asg (pe_op op_fdiv (pe_ix ix_list (pv 0) pe_int (fun _ _ => rfl)) (pv 1)) (pg_sub (pv 0) pe_int set_list))
      (pss_one (ps_ret (pv 2))))), ?_⟩
    -- behind the first statement
    have rest : ∀ (ns' : List Int) (i' j' : Int) (H1 : Hp), BxAt H1 b c ns' i' j' → Kept H b c H1 → tSeq (tAsg (tOp (rI (fun _ j => 0 < j) fun i j => .int (i % j)) (tCB (fun xs H Q => (∃ i, xs = [.int i] ∧ Q (.int i) H) ∨ ∃ k, xs = [.bl k] ∧ Q (.int (if k then 1 else 0)) H) (tCons (tOp (rIxL K) (tVar 0) (tC (.int 1))) tNil)) (tVar 1)) (gName 2))
        (tSeq (tAsg (tOp (rI CDiv fun i j => .int (i / j)) (tOp (rIxL K) (tVar 0) (tC (.int 1))) (tVar 1)) (gSub (tVar 0) (tC (.int 1)) rSetL)) (tRet (tVar 2))) { nx := fun _ H' => Q .non H', rt := Q } (L2.start ["box", "many", "digit"] [.ref b, .int m]) H1 := by
      intro ns' i' j' H1 B1 K1
      refine ⟨_, rfl, ⟨b, _, 1, .int i', rfl, rfl, .of B1.hb, rfl, .inl ⟨i', rfl, .int m, rfl, i', m, rfl, rfl, hm, ?_⟩⟩⟩
      refine ⟨_, rfl, ⟨b, _, 1, .int i', rfl, rfl, .of B1.hb, rfl, .int m, rfl, i', m, rfl, rfl, ?_, ?_⟩⟩
      · exact ⟨hm, by omega⟩
      · refine ⟨_, rfl, b, _, 1, 1, rfl, rfl, B1.hb, rfl, .int (i' % m), rfl, ?_⟩
        exact k _ ns' (i' / m) j' _ (mod_nn hm) (Int.emod_lt_of_pos _ hm) (B1.setI (Int.ediv_nonneg B1.i0 (by omega))) (K1.trans (.at (.inl rfl)))
    refine ⟨_, rfl, ⟨b, _, 1, .int i, rfl, rfl, .of B.hb, rfl, .int m, rfl, i, m, rfl, rfl, _, rfl, ?_⟩⟩
    refine ite2 (fun _ => ?_) (fun _ => rest ns i j H B .refl)
    refine ⟨.ref b, rfl, b, c, ns, i, j, rfl, B, fun r ns' j' H2 hr0 B2 K2 => ?_⟩
    refine ⟨_, rfl, b, _, 1, 1, rfl, rfl, B2.hb, rfl, ?_⟩
    exact rest ns' r j' _ (B2.setI hr0) (K2.trans (.at (.inl rfl)))
/-! ### _law_load -/
theorem ok_load (G : Gs K mg) {f : Addr} {fd : FuncData} (F : Fun K "_law_load" "_law_load" sLoad f fd) : FnOk P w K mg base CX0 1 f fd ["box"] spLoad := by
  have S := sc_load
  refine F.ok S (fun vs H Q E h => ?_) (fun cdv A outer s H vs Q E hr h => ?_)
  · obtain ⟨b, c, ns, i, j, rfl, _⟩ := h
    rfl
  · obtain ⟨b, c, ns, i, j, rfl, B, k⟩ := h
    refine ⟨_, pss_cons (ps_set (i := 1) S.nd rfl (Or.inl rfl) (pe_ix ix_list (pv 0) pe_int (fun _ _ => rfl)))
      (pss_cons (ps_if (pt_cmpR op_gt (pe_callB call_len_seq (by rfl) G.b_len (by decide +kernel) (pa_cons (pv 1) pa_nil)) pe_int (nomark _))
        (pss_cons (ps_set (i := 2) S.nd rfl (Or.inl rfl) (pe_callTy call_int1 (by rfl) G.b_int (by decide +kernel) (pa_cons (pe_bm PySem.F.plainAttrs_list PySem.F.slot_list_pop PySem.F.type_list_pop mt_popAt (pv 1) (pa_cons pe_int pa_nil)) pa_nil)))
        (pss_cons (ps_set (i := 3) S.nd rfl (Or.inl rfl) (pe_ifExp (pt_cmpR op_ge (pv 2) pe_int (nomark _)) (pe_op op_mul pe_int (pv 2)) (pe_op op_sub (pe_op op_mul (pe_un un_neg pe_int) (pv 2)) pe_int)))
        (pss_cons (ps_if (pt_cmpR op_ge (pv 3) pe_int (nomark _)) (pss_one (ps_ret (pv 3))) pss_nil)
        (pss_one (ps_asg (pe_op op_mod (pe_callTy call_int1 (by rfl) G.b_int (by decide +kernel) (pa_cons (pe_op op_add (pe_op op_add (pe_op op_mul (pe_ix ix_list (pv 0) pe_int (fun _ _ => rfl)) pe_int) (pe_op op_mul (pv 3) pe_int)) pe_int) pa_nil)) pe_int) (pg_sub (pv 0) pe_int set_list)))))) pss_nil)
      (pss_cons (ps_set (i := 4) S.nd rfl (Or.inl rfl) (pe_op op_mod (pe_callTy call_int1 (by rfl) G.b_int (by decide +kernel) (pa_cons (pe_op op_add (pe_op op_mul (pe_ix ix_list (pv 0) pe_int (fun _ _ => rfl)) pe_int) pe_int) pa_nil)) pe_int))
      (pss_cons (ps_set (i := 5) S.nd rfl (Or.inl rfl) (pe_op op_mod (pe_callTy call_int1 (by rfl) G.b_int (by decide +kernel) (pa_cons (pe_op op_add (pe_op op_mul (pv 4) pe_int) pe_int) pa_nil)) pe_int))
      (pss_cons (ps_asg (pe_op op_mod (pe_callTy call_int1 (by rfl) G.b_int (by decide +kernel) (pa_cons (pe_op op_add (pe_op op_mul (pv 5) pe_int) pe_int) pa_nil)) pe_int) (pg_sub (pv 0) pe_int set_list))
      (pss_one (ps_ret (pe_op op_add (pe_op op_add (pe_op op_mul (pv 4) pe_int) (pe_op op_mul (pv 5) pe_int)) (pe_ix ix_list (pv 0) pe_int (fun _ _ => rfl))))))))), ?_⟩
    refine ⟨_, rfl, b, _, 0, .ref c, rfl, rfl, .of B.hb, rfl, ?_⟩
    refine ⟨_, rfl, c, ns.map V.int, rfl, .inl (.of B.hc), _, _, rfl, rfl, _, rfl, ?_⟩
    refine ite2 (fun hpos => ?_) (fun _ => ?_)
    · cases ns with
      | nil => exact absurd hpos (by decide)
      | cons n ns0 =>
        refine ⟨_, rfl, .inl ⟨rfl, _, .of B.hc⟩, c, _, 0, 0, .int n, rfl, rfl, B.hc, by decide, by decide, by simp [seqIndex?], rfl, .inl ⟨n, rfl, ?_⟩⟩
        have B1 : BxAt (upd H c (.lst (((n :: ns0).map V.int).eraseIdx 0))) b c ns0 i j := ⟨B.ne, by rw [upd_ne B.ne]; exact B.hb, upd_same, B.i0, B.j0, Nat.le_of_succ_le B.few⟩
        have K1 : Kept H b c (upd H c (.lst (((n :: ns0).map V.int).eraseIdx 0))) := .at (.inr rfl)
        refine ⟨_, rfl, _, _, rfl, rfl, _, rfl, ?_⟩
        refine ite2 (fun hn => ?_) (fun hn => ?_)
        · have hn' : 0 ≤ n := of_decide_eq_true hn
          refine ⟨_, rfl, _, _, rfl, rfl, .inl ⟨by decide, by decide⟩, ?_⟩
          refine ⟨_, rfl, _, _, rfl, rfl, _, rfl, ?_⟩
          refine ite2 (fun _ => ⟨_, rfl, k _ ns0 j _ (by omega) B1 K1⟩) (fun _ => ?_)
          refine ⟨_, rfl, b, _, 2, .int j, rfl, rfl, .of B1.hb, rfl, _, _, rfl, rfl, .inr ⟨by decide, by decide⟩, _, rfl, _, _, rfl, rfl, .inr ⟨by decide, by decide⟩, _, _, rfl, rfl, _, _, rfl, rfl, .inl ⟨_, rfl, _, _, rfl, rfl, by show (0 : Int) < _; decide, _, rfl, b, _, 2, 2, rfl, rfl, B1.hb, rfl, ?_⟩⟩
          have B2 := B1.setJ (mod_nn (a := j * 69621 + 2 * n * 48271 + 11) (b := 2147483647) (by decide))
          refine ⟨_, rfl, b, _, 2, .int (_), rfl, rfl, .of B2.hb, rfl, _, _, rfl, rfl, .inr ⟨by decide, by decide⟩, _, _, rfl, rfl, .inl ⟨_, rfl, _, _, rfl, rfl, by show (0 : Int) < _; decide, ?_⟩⟩
          refine ⟨_, rfl, _, _, rfl, rfl, .inr ⟨by decide, by decide⟩, _, _, rfl, rfl, .inl ⟨_, rfl, _, _, rfl, rfl, by show (0 : Int) < _; decide, ?_⟩⟩
          refine ⟨_, rfl, _, _, rfl, rfl, .inr ⟨by decide, by decide⟩, _, _, rfl, rfl, .inl ⟨_, rfl, _, _, rfl, rfl, by show (0 : Int) < _; decide, _, rfl, b, _, 2, 2, rfl, rfl, B2.hb, rfl, ?_⟩⟩
          refine ⟨_, rfl, _, _, rfl, rfl, .inr ⟨by decide, by decide⟩, _, rfl, _, _, rfl, rfl, .inr ⟨by decide, by decide⟩, _, _, rfl, rfl, _, rfl, b, _, 2, .int _, rfl, rfl, .of upd_same, rfl, _, _, rfl, rfl, ?_⟩
          exact k _ ns0 _ _ (Int.add_nonneg (Int.add_nonneg (Int.mul_nonneg (mod_nn (by decide)) (by decide)) (Int.mul_nonneg (mod_nn (by decide)) (by decide))) (mod_nn (by decide))) (B2.setJ (mod_nn (by decide))) ((K1.trans (.at (.inl rfl))).trans (.at (.inl rfl)))
        · have hn' : ¬ 0 ≤ n := fun z => hn (decide_eq_true z)
          refine ⟨_, rfl, _, rfl, _, _, rfl, rfl, .inl ⟨by decide, by decide⟩, _, _, rfl, rfl, ?_⟩
          refine ⟨_, rfl, _, _, rfl, rfl, _, rfl, ?_⟩
          refine ite2 (fun _ => ⟨_, rfl, k _ ns0 j _ (by omega) B1 K1⟩) (fun _ => ?_)
          refine ⟨_, rfl, b, _, 2, .int j, rfl, rfl, .of B1.hb, rfl, _, _, rfl, rfl, .inr ⟨by decide, by decide⟩, _, rfl, _, _, rfl, rfl, .inr ⟨by decide, by decide⟩, _, _, rfl, rfl, _, _, rfl, rfl, .inl ⟨_, rfl, _, _, rfl, rfl, by show (0 : Int) < _; decide, _, rfl, b, _, 2, 2, rfl, rfl, B1.hb, rfl, ?_⟩⟩
          have B2 := B1.setJ (mod_nn (a := j * 69621 + (-2 * n - 1) * 48271 + 11) (b := 2147483647) (by decide))
          refine ⟨_, rfl, b, _, 2, .int (_), rfl, rfl, .of B2.hb, rfl, _, _, rfl, rfl, .inr ⟨by decide, by decide⟩, _, _, rfl, rfl, .inl ⟨_, rfl, _, _, rfl, rfl, by show (0 : Int) < _; decide, ?_⟩⟩
          refine ⟨_, rfl, _, _, rfl, rfl, .inr ⟨by decide, by decide⟩, _, _, rfl, rfl, .inl ⟨_, rfl, _, _, rfl, rfl, by show (0 : Int) < _; decide, ?_⟩⟩
          refine ⟨_, rfl, _, _, rfl, rfl, .inr ⟨by decide, by decide⟩, _, _, rfl, rfl, .inl ⟨_, rfl, _, _, rfl, rfl, by show (0 : Int) < _; decide, _, rfl, b, _, 2, 2, rfl, rfl, B2.hb, rfl, ?_⟩⟩
          refine ⟨_, rfl, _, _, rfl, rfl, .inr ⟨by decide, by decide⟩, _, rfl, _, _, rfl, rfl, .inr ⟨by decide, by decide⟩, _, _, rfl, rfl, _, rfl, b, _, 2, .int _, rfl, rfl, .of upd_same, rfl, _, _, rfl, rfl, ?_⟩
          exact k _ ns0 _ _ (Int.add_nonneg (Int.add_nonneg (Int.mul_nonneg (mod_nn (by decide)) (by decide)) (Int.mul_nonneg (mod_nn (by decide)) (by decide))) (mod_nn (by decide))) (B2.setJ (mod_nn (by decide))) ((K1.trans (.at (.inl rfl))).trans (.at (.inl rfl)))
    · refine ⟨_, rfl, b, _, 2, .int (j), rfl, rfl, .of B.hb, rfl, _, _, rfl, rfl, .inr ⟨by decide, by decide⟩, _, _, rfl, rfl, .inl ⟨_, rfl, _, _, rfl, rfl, by show (0 : Int) < _; decide, ?_⟩⟩
      refine ⟨_, rfl, _, _, rfl, rfl, .inr ⟨by decide, by decide⟩, _, _, rfl, rfl, .inl ⟨_, rfl, _, _, rfl, rfl, by show (0 : Int) < _; decide, ?_⟩⟩
      refine ⟨_, rfl, _, _, rfl, rfl, .inr ⟨by decide, by decide⟩, _, _, rfl, rfl, .inl ⟨_, rfl, _, _, rfl, rfl, by show (0 : Int) < _; decide, _, rfl, b, _, 2, 2, rfl, rfl, B.hb, rfl, ?_⟩⟩
      refine ⟨_, rfl, _, _, rfl, rfl, .inr ⟨by decide, by decide⟩, _, rfl, _, _, rfl, rfl, .inr ⟨by decide, by decide⟩, _, _, rfl, rfl, _, rfl, b, _, 2, .int _, rfl, rfl, .of upd_same, rfl, _, _, rfl, rfl, ?_⟩
      exact k _ ns _ _ (Int.add_nonneg (Int.add_nonneg (Int.mul_nonneg (mod_nn (by decide)) (by decide)) (Int.mul_nonneg (mod_nn (by decide)) (by decide))) (mod_nn (by decide))) (B.setJ (mod_nn (by decide))) ((Kept.refl).trans (.at (.inl rfl)))
end
end K70
set_option Elab.async false
set_option linter.all false
set_option maxRecDepth 100000
set_option maxHeartbeats 2000000
set_option autoImplicit false
namespace K70
open PySem PySem.Spec PyProof.Rows L2 Fm
open Evl (Ex ex_l ex_t ex_rd)
open WPM
structure DrawAt (P : Program) (w : World) (K : PySem.W.Frag) (mg : Str → Option Value) (base : Heap) : Prop where
  ex : ∃ f fd ps, FnOk P w K mg base CX0 2 f fd ps spDraw ∧ mg "_law_draw" = some (.ref f) ∧ PySem.W.keepIn K (.ref f) = true ∧ Binds K fd ps []
section
variable {X : Cx} {b c : Addr} {e : Expr} {pos p px : Pos} {x : Str} {me : En → Dm D}
theorem bx_of {Hf H : Hp} (h : BoxOk (some (b, c)) Hf H) : ∃ ns i j, BxAt H b c ns i j ∧ Hf b = none ∧ Hf c = none := by
  obtain ⟨h1, h2, h3, ns, i, j, h4, h5, h6, h7, h8⟩ := h
  exact ⟨ns, i, j, ⟨h1, h4, h5, h6, h7, h8⟩, h2, h3⟩
theorem step_bx {Hf H H2 : Hp} {ns : List Int} {i j : Int} (hi : Ex Hf H) (h1 : Hf b = none) (h2 : Hf c = none) (B2 : BxAt H2 b c ns i j) (k : Kept H b c H2) : Fm.Step (isB (some (b, c))) Hf H Hf H2 ∧ BoxOk (some (b, c)) Hf H2 := by
  refine ⟨⟨Ex.refl _, fun a u e => ?_, fun a e _ => e, fun a u nb e => ?_, k.lv⟩, B2.ne, h1, h2, ns, i, j, B2.hb, B2.hc, B2.i0, B2.j0, B2.few⟩
  · exact k.kp a u (fun z => by rw [z, h1] at e; cases e) (fun z => by rw [z, h2] at e; cases e) (hi a u e)
  · exact k.kp a u (fun z => nb (.inl z)) (fun z => nb (.inr z)) e
def mDraw (i : Nat) (me : En → Dm D) : En → Dm D := fun E => match E[i]? with
  | some .bx => me E >>= fun d => match d with
    | .int m => if 0 < m ∧ m < 1000000 then pick ((List.range m.toNat).map fun (k : Nat) => D.int (k : Int)) else fail
    | _ => fail
  | _ => fail
theorem mem_rng {r m : Int} (h0 : 0 ≤ r) (h1 : r < m) : D.int r ∈ (List.range m.toNat).map fun (k : Nat) => D.int (k : Int) := by
  refine List.mem_map.mpr ⟨r.toNat, by simp; omega, ?_⟩
  rw [Int.toNat_of_nonneg h0]
theorem pm_draw (i : Nat) (G : DrawAt X.prog X.w X.K X.mg X.base) (hr : Room 2 X.A) (hg : Gl X "_law_draw") (hv : PE X (.Name x px) (tVar i)) (he : PM X (some (b, c)) e me)
    (h1 : starEach [.Name x px, e] X.env = (false, eval (.Name x px) X.env) :: starEach [e] X.env := by rfl) (h2 : starEach [e] X.env = (false, eval e X.env) :: starEach [] X.env := by rfl) (hpl : (backTo pos (starEach [e] X.env)).any (·.1) = false := by rfl) :
    PM X (some (b, c)) (.Call (.Name "_law_draw" p) [.Name x px, e] [] pos) (mDraw i me) := by
  obtain ⟨f, fd, ps, F, hm, hk, hb⟩ := G.ex
  obtain ⟨ta, a1, a2⟩ := he.ex
  refine ⟨_, pe_call (dvs := []) (E := fun _ _ _ => False) F hr hg hm hk hb .nil pass0 (pa_cons hv (pa_cons a1 pa_nil h2) h1) (by decide) h1 hpl, fun {Hf0 H0 E σ Hf H} I {P} w Q q => ?_⟩
  unfold mDraw at w
  cases e1 : E[i]? with
  | none => rw [e1] at w; exact absurd w wp_fail
  | some sl =>
    rw [e1] at w
    cases sl with
    | bx =>
      obtain ⟨b', c', eb, ev⟩ := I.at e1
      cases eb
      refine ⟨.ref b, ev, ?_⟩
      refine a2 I (wp_bind w) _ fun d v Hf2 H2 w2 s2 o2 r2 => ?_
      cases d with
      | int m =>
        cases r2
        replace w2 : wp (if 0 < m ∧ m < 1000000 then pick ((List.range m.toNat).map fun (k : Nat) => D.int (k : Int)) else fail : Dm D) P := w2
        by_cases hm2 : 0 < m ∧ m < 1000000
        case neg => rw [if_neg hm2] at w2; exact absurd w2 wp_fail
        rw [if_pos hm2] at w2
        obtain ⟨ns, i0, j0, B, f1, f2⟩ := bx_of o2
        refine ⟨b, c, ns, i0, j0, m, rfl, B, hm2, fun r ns' i' j' H3 h0 hl B3 K3 => ?_⟩
        obtain ⟨s3, o3⟩ := step_bx s2.i f1 f2 B3 K3
        exact q (.int r) (.int r) Hf2 H3 (wp_pick w2 _ (mem_rng h0 hl)) (s2.trans s3) o3 (.int r)
      | _ => exact absurd w2 wp_fail
    | _ => exact absurd w wp_fail
/-! ### sorted(kinds)[a draw below len(kinds)] : any of the words -/
def keyStrs : List Key → Option (List Str)
  | [] => some []
  | .inr z :: r => match keyStrs r with
    | some l => some (z :: l)
    | none => none
  | _ :: _ => none
theorem keyStrs_of : ∀ {ks : List Key} {zs : List Str}, keyStrs ks = some zs → ks = zs.map Sum.inr
  | [], _, e => by cases e; rfl
  | .inr z :: r, zs, e => by
    rw [keyStrs] at e
    cases q : keyStrs r with
    | none => rw [q] at e; cases e
    | some l => rw [q] at e; cases e; rw [keyStrs_of q]; rfl
  | .inl _ :: _, _, e => by cases e
def mSp (i n : Nat) : En → Dm D := fun E => match E[i]?, E[n]? with
  | some .bx, some (.sh (.dct ks _)) => match keyStrs ks with
    | some zs => if 0 < zs.length ∧ zs.length < 64 then pick (zs.map D.str) else fail
    | none => fail
  | _, _ => fail
theorem pm_sp (i n : Nat) {y : Str} {py py2 p2 p3 p4 q1 q2 q3 : Pos} (G : DrawAt X.prog X.w X.K X.mg X.base) (hr : Room 2 X.A) (hc : X.calm = true) (hg : Gl X "_law_draw") (hg2 : Gl X "sorted") (hm2 : X.mg "sorted" = none) (hg3 : Gl X "len") (hm3 : X.mg "len" = none) (hv : PE X (.Name x px) (tVar i)) (hy : PE X (.Name y py) (tVar n)) (hy2 : PE X (.Name y py2) (tVar n))
    (hA : ∀ td, PE X (.Call (.Name "_law_draw" p2) [.Name x px, .Call (.Name "len" p3) [.Name y py2] [] q1] [] q2) td → PE X (.Subscript (.Call (.Name "sorted" p4) [.Name y py] [] q3) (.Call (.Name "_law_draw" p2) [.Name x px, .Call (.Name "len" p3) [.Name y py2] [] q1] [] q2) pos) (tOp (rIxL X.K) (tCB (fun xs H Q => ∃ (a : Addr) (kvs : List (Key × V)) (ks : List Str), xs = [.ref a] ∧ Rd H a (.dK kvs) ∧ kvs.map (·.1) = ks.map Sum.inr ∧ ks.length < 64 ∧ ∀ ys p, ys.Perm ks → sortedS ys = true → H p = none → Q (.ref p) (upd H p (.lst (ys.map V.str)))) (tCons (tVar n) tNil)) td))
    (hB : ∀ (k : Nat) (f : Addr) (fd : FuncData) (ps : List Str), FnOk X.prog X.w X.K X.mg X.base CX0 2 f fd ps spDraw → X.mg "_law_draw" = some (.ref f) → PySem.W.keepIn X.K (.ref f) = true → Binds X.K fd ps [] → PE X (.Call (.Name "_law_draw" p2) [.Name x px, .Call (.Name "len" p3) [.Name y py2] [] q1] [] q2) (tCall spDraw [] (fun _ _ _ => False) (tCons (tVar i) (tCons (tCB (fun xs H Q => ∃ a kvs, xs = [V.ref a] ∧ H a = some (.dK kvs) ∧ Q (.int kvs.length) H) (tCons (tVar n) tNil)) tNil)))) :
    PM X (some (b, c)) (.Subscript (.Call (.Name "sorted" p4) [.Name y py] [] q3) (.Call (.Name "_law_draw" p2) [.Name x px, .Call (.Name "len" p3) [.Name y py2] [] q1] [] q2) pos) (mSp i n) := by
  obtain ⟨f, fd, ps, F, hm, hk, hb⟩ := G.ex
  refine ⟨_, hA _ (hB 0 f fd ps F hm hk hb), fun {Hf0 H0 E σ Hf H} I {P} w Q q => ?_⟩
  unfold mSp at w
  cases e1 : E[i]? with
  | none => rw [e1] at w; exact absurd w wp_fail
  | some s1 =>
    cases e2 : E[n]? with
    | none => rw [e1, e2] at w; cases s1 <;> exact absurd w wp_fail
    | some s2 =>
      rw [e1, e2] at w
      cases s1 with
      | bx =>
        cases s2 with
        | sh d =>
          cases d with
          | dct ks ds =>
            dsimp only at w
            cases ek : keyStrs ks with
            | none => rw [ek] at w; exact absurd w wp_fail
            | some zs =>
              rw [ek] at w
              dsimp only at w
              by_cases hz : 0 < zs.length ∧ zs.length < 64
              case neg => rw [if_neg hz] at w; exact absurd w wp_fail
              rw [if_pos hz] at w
              obtain ⟨b', c', eb, ev⟩ := I.at e1
              cases eb
              obtain ⟨v, ev2, r2⟩ := I.at e2
              cases r2 with
              | @dct a kvs _ _ hd hks hrl =>
                have hks2 : kvs.map (·.1) = zs.map Sum.inr := hks.trans (keyStrs_of ek)
                have hl : kvs.length = zs.length := by simpa using congrArg List.length hks2
                refine ⟨.ref a, ev2, a, kvs, zs, rfl, .inl (I.st.i _ _ hd), hks2, hz.2, fun ys o hp hs ho => ?_⟩
                have I1 := I.new (o := .lst (ys.map V.str)) ho
                obtain ⟨ns, i0, j0, B, f1, f2⟩ := bx_of I1.box
                refine ⟨.ref b, ev, .ref a, ev2, a, kvs, rfl, I1.st.i _ _ ((Ex.new (Evl.fresh_back I.st.i ho)) _ _ hd), ?_⟩
                refine ⟨b, c, ns, i0, j0, kvs.length, rfl, B, ⟨by omega, by omega⟩, fun r ns' i' j' H3 h0 hlt B3 K3 => ?_⟩
                obtain ⟨s3, o3⟩ := step_bx I1.st.i f1 f2 B3 K3
                have hlen : ys.length = zs.length := hp.length_eq
                have hri : r.toNat < ys.length := by omega
                have hget : (ys.map V.str)[r.toNat]? = some (.str ys[r.toNat]) := by simp [hri]
                refine ⟨o, ys.map V.str, r, .str ys[r.toNat], rfl, rfl, .of ((s3.f.trans s3.i) _ _ upd_same), ?_, ?_⟩
                · have := atI_nat hget
                  rwa [Int.toNat_of_nonneg h0] at this
                · exact q (.str ys[r.toNat]) _ _ H3 (wp_pick w _ (List.mem_map.mpr ⟨_, hp.mem_iff.mp (List.getElem_mem hri), rfl⟩)) ((Fm.Step.new I.st.i ho).trans s3) o3 (.str _)
          | _ => exact absurd w wp_fail
        | _ => exact absurd w wp_fail
      | _ => exact absurd w wp_fail
end
end K70
set_option Elab.async false
set_option linter.all false
set_option maxRecDepth 100000
set_option maxHeartbeats 2000000
set_option autoImplicit false
namespace K70
open PySem PySem.Spec PyProof.Rows L2 Fm
open Evl (Ex ex_l ex_t ex_rd)
open WPM
abbrev s_law : Stmt := top 89
abbrev N_law : List Str := ["script", "box", "told", "asked", "good", "bad", "turn", "kinds", "judge", "word", "sorts", "parts", "k", "others", "wrong", "value", "sort", "paper", "claim", "due", "other"]
theorem sc_law : FnScope ["script", "box", "told", "asked", "good", "bad", "turn", "kinds", "judge", "word", "sorts", "parts", "k", "others", "wrong", "value", "sort", "paper", "claim", "due", "other"] ["script"] (defScope s_law) := ⟨rfl, rfl, rfl, by decide +kernel, rfl, by decide +kernel, by decide +kernel⟩
def b_rest (aC aQ : Addr) (SJ : Addr → Option (List D → Option D)) : En → Dm Fl := mSeq (mAsg (mOp pDix (mVarB 7) (mVarB 9)) (fName 10)) (mSeq (mAsg (mCallB fTuple (aCons (mComp (mItems (mVar 10)) [16] (fName 16) (fun _ => pure true) (mOp pIx (mOp pDix (mVarB 4) (mVarB 16)) (mDraw 1 (mCallB fLen (aCons (mOp pDix (mVarB 4) (mVarB 16)) (aNil)))))) (aNil))) (fName 11)) (mSeq (mIfS (mTest (mOp pIs2 (mCallV 8 1 SJ (cCons (mOp pAdd (mTup (cCons (mVar 9) (cNil))) (mVarB 11)) (cNil))) (mC (.bl true)))) (mRet (mC (.bl false))) (mNx)) (mSeq (mAsg (mDraw 1 (mCallB fLen (aCons (mVarB 11) (aNil)))) (fName 12)) (mSeq (mAsg (mOp pDix (mVarB 5) (mOp pIx (mVarB 10) (mVarB 12))) (fName 13)) (mSeq (mAsg (mLst (cCons (mOp pAdd (mOp pAdd (mOp pAdd (mTup (cCons (mVar 9) (cNil))) (mSl (mVarB 11) (mNoPart) (mPart (mVar 12)))) (mTup (cCons (mOp pIx (mVarB 13) (mDraw 1 (mCallB fLen (aCons (mVarB 13) (aNil))))) (cNil)))) (mSl (mVarB 11) (mPart (mOp pAdd (mVarB 12) (mC (.int 1)))) (mNoPart))) (cCons (mOp pAdd (mOp pAdd (mTup (cCons (mVar 9) (cNil))) (mVarB 11)) (mTup (cCons (mC .non) (cNil)))) (cCons (mOp pAdd (mTup (cCons (mVar 9) (cNil))) (mSl (mVarB 11) (mPart (mC (.int 1))) (mNoPart))) (cCons (mOp pAdd (mTup (cCons (mOp pAdd (mVarB 9) (mC (.str "z"))) (cNil))) (mVarB 11)) (cCons (mOp pAdd (mTup (cCons (mC .non) (cNil))) (mVarB 11)) (cCons (mC .non) (cCons (mTup (cNil)) (cCons (mVar 9) (cNil)))))))))) (fName 14)) (mFor (mItems (mTup (cCons (mOp pIx (mVarB 14) (mC (.int 0))) (cCons (mOp pIx (mVarB 14) (mOp pAdd (mC (.int 1)) (mDraw 1 (mC (.int 7))))) (cNil))))) (fName 15) (mSeq (mIfS (mTest (mOp pIs2 (mCallV 8 1 SJ (cCons (mVar 15) (cNil))) (mC (.bl false)))) (mRet (mC (.bl false))) (mNx)) (mIfS (mAnd (mTest (mOp (pEqv false) (mCallB fLen (aCons (mVarB 7) (aNil))) (mC (.int 4)))) (mTru (mCallB fAny (aCons (mComp (mItems (mTup (cCons (mTup (cNil)) (cCons (mC (.int 0)) (cCons (mC .non) (cCons (mTup (cCons (mTup (cNil)) (cCons (mTup (cNil)) (cNil)))) (cNil))))))) [17] (fName 17) (fun _ => pure true) (mOp pIs2 (mCall 2 f_proves (cCons (mVar 15) (cCons (mVar 17) (cNil)))) (mC (.bl false)))) (aNil))))) (mRet (mC (.bl false))) (mNx)))))))))
def b_kind (aC aQ : Addr) (SJ : Addr → Option (List D → Option D)) : En → Dm Fl := mSeq (mAsg (mSp 1 7) (fName 9)) (b_rest aC aQ SJ)
def b_turn (aC aQ : Addr) (SJ : Addr → Option (List D → Option D)) : En → Dm Fl := mForInv [7, 8, 9, 10, 16, 11, 12, 13, 14, 15, 17] (mItems (mTup (cCons (mTup (cCons (mVar 2) (cCons (mC (.fn aC)) (cNil)))) (cCons (mTup (cCons (mVar 3) (cCons (mC (.fn aQ)) (cNil)))) (cNil))))) (fTup 2 (fsCons (fName 7) (fsCons (fName 8) (fsNil)))) (b_kind aC aQ SJ)
def b_rows : En → Dm Fl := mSeq (mFor (mItems ((fun _ => lift (f__law_rows [])))) (fTup 3 (fsCons (fName 18) (fsCons (fName 17) (fsCons (fName 19) (fsNil))))) (mSeq (mIfS (mNot (mTru (mCall 2 f__law_same (cCons (mCall 2 f_proves (cCons (mVar 18) (cCons (mVar 17) (cNil)))) (cCons (mVar 19) (cNil)))))) (mRet (mC (.bl false))) (mNx)) (mIfS (mTru (mCallB fAny (aCons (mComp (mItems (mTup (cCons (mNeg (mC (.int 5))) (cCons (mC (.bl true)) (cCons (mC (.str "paper")) (cCons (mTup (cCons (mVar 17) (cCons (mVar 17) (cCons (mVar 17) (cCons (mVar 17) (cNil)))))) (cCons (mTup (cCons (mTup (cCons (mVar 17) (cNil))) (cCons (mVar 17) (cCons (mC .non) (cNil))))) (cNil)))))))) [20] (fName 20) (fun _ => pure true) (mOp pIs2 (mCall 2 f_proves (cCons (mVar 18) (cCons (mVar 20) (cNil)))) (mC (.bl false)))) (aNil)))) (mRet (mC (.bl false))) (mNx)))) (mRet (mC (.bl true)))
def b_law (aC aQ : Addr) (SJ : Addr → Option (List D → Option D)) : En → Dm Fl := mSeq (mAsg ((fun _ => lift (f__law_kinds []))) (fTup 2 (fsCons (fName 2) (fsCons (fName 3) (fsNil))))) (mSeq (mAsg (mTup (cCons ((fun _ => lift (f__law_good []))) (cCons ((fun _ => lift (f__law_bad []))) (cNil)))) (fTup 2 (fsCons (fName 4) (fsCons (fName 5) (fsNil))))) (mSeq (mForSame 6 [6, 7, 8, 9, 10, 16, 11, 12, 13, 14, 15, 17] (mRng rng1 (aCons (mC (.int 6)) (aNil))) (b_turn aC aQ SJ)) (b_rows)))
section
variable {P : Program} {w : World} {K : PySem.W.Frag} {mg : Str → Option Value} {base : Heap}

theorem m_law {b c aC aQ : Addr} {SJ : Addr → Option (List D → Option D)} (G : Gs K mg) (GD : DrawAt P w K mg base) (gC : GlobOk K mg "is_claim" (.fn aC)) (gQ : GlobOk K mg "is_question" (.fn aQ)) (AJ : ∀ a g, SJ a = some g → Held1 P w K mg base 9 a 1 g) (F__law_kinds : Df P w K mg base 1 "_law_kinds" 0 f__law_kinds) (F__law_bad : Df P w K mg base 2 "_law_bad" 0 f__law_bad) (F__law_good : Df P w K mg base 2 "_law_good" 0 f__law_good) (F_proves : Df P w K mg base 9 "proves" 2 f_proves) (F__law_rows : Df P w K mg base 2 "_law_rows" 0 f__law_rows) (F__law_same : Df P w K mg base 4 "_law_same" 2 f__law_same)
    {f : Addr} {cdv : Value} {A : Around} {outer : List Env} {s : Shared} {H : Hp} {E : XK} (hr : Room 9 (A.deeper (envOfC "law" (defScope s_law) s.heap.objs.size f cdv))) : SsM (cxOf CX0 P w K mg base N_law "law" (defScope s_law) f cdv A outer s H E).nox (some (b, c)) (defBody s_law).tail (b_law aC aQ SJ) := by
    have S := sc_law
    have F__law_kinds := F__law_kinds.mono (show 1 ≤ 9 by decide)
    have F__law_bad := F__law_bad.mono (show 2 ≤ 9 by decide)
    have F__law_good := F__law_good.mono (show 2 ≤ 9 by decide)
    have F__law_rows := F__law_rows.mono (show 2 ≤ 9 by decide)
    have F__law_same := F__law_same.mono (show 4 ≤ 9 by decide)
    exact ssm_cons (sm_asg (pm_call0 F__law_kinds hr (by rfl)) (gm_tup rfl (gsm_cons (gm_name 2 S.nd rfl (by first | exact Or.inl rfl | exact Or.inr rfl)) (gsm_cons (gm_name 3 S.nd rfl (by first | exact Or.inl rfl | exact Or.inr rfl)) (gsm_nil))))) (ssm_cons (sm_asg (pm_tup (cm_cons (pm_call0 F__law_good hr (by rfl)) (cm_cons (pm_call0 F__law_bad hr (by rfl)) (cm_nil)))) (gm_tup rfl (gsm_cons (gm_name 4 S.nd rfl (by first | exact Or.inl rfl | exact Or.inr rfl)) (gsm_cons (gm_name 5 S.nd rfl (by first | exact Or.inl rfl | exact Or.inr rfl)) (gsm_nil))))) (ssm_cons (sm_forSame 6 [6, 7, 8, 9, 10, 16, 11, 12, 13, 14, 15, 17] PassesOwn.never rfl (im_range1 (by rfl) G.b_range (am_cons (PM.toB (pm_int)) (am_nil))) S.nd rfl (by first | exact Or.inl rfl | exact Or.inr rfl) (ssm_one (sm_forInv [7, 8, 9, 10, 16, 11, 12, 13, 14, 15, 17] PassesOwn.never rfl (im_seq (pm_tup (cm_cons (pm_tup (cm_cons (pm_var 2 (pv 2)) (cm_cons (pm_g gC (by rfl)) (cm_nil)))) (cm_cons (pm_tup (cm_cons (pm_var 3 (pv 3)) (cm_cons (pm_g gQ (by rfl)) (cm_nil)))) (cm_nil))))) (gm_tup rfl (gsm_cons (gm_name 7 S.nd rfl (by first | exact Or.inl rfl | exact Or.inr rfl)) (gsm_cons (gm_name 8 S.nd rfl (by first | exact Or.inl rfl | exact Or.inr rfl)) (gsm_nil)))) (ssm_cons (sm_set 9 (pm_sp 1 7 GD (hr.mono (by decide)) rfl (by rfl) (by rfl) G.b_sorted (by rfl) G.b_len (pv 1) (pv 7) (pv 7) (fun td h => by exact pe_ix ix_list (pe_callB (call_sortedD rfl) (by rfl) G.b_sorted (by decide +kernel) (pa_cons (pv 7) pa_nil)) h (fun _ _ => rfl)) (fun _ f fd ps F hm hk hb => by exact pe_call F (hr.mono (by decide)) (by rfl) hm hk hb .nil pass0 (pa_cons (pv 1) (pa_cons (pe_callB call_lenD (by rfl) G.b_len (by decide +kernel) (pa_cons (pv 7) pa_nil)) pa_nil)))) S.nd rfl (by first | exact Or.inl rfl | exact Or.inr rfl)) (ssm_cons (sm_set 10 (pm_dix (u1_of hr) (bm_var 7 (pv 7)) (bm_var 9 (pv 9)) (fun _ _ => rfl)) S.nd rfl (by first | exact Or.inl rfl | exact Or.inr rfl)) (ssm_cons (sm_set 11 (pm_callTy (call_tuple_of) rc_tuple (by rfl) G.b_tuple (by decide +kernel) (am_cons (PM.toB (pm_comp (own := [("sort", 16)]) rfl S.nd (im_seq (pm_var 10 (pv 10))) (blkOk_by (own := [("sort", 16)]) (N := ["script", "box", "told", "asked", "good", "bad", "turn", "kinds", "judge", "word", "sorts", "parts", "k", "others", "wrong", "value", "sort", "paper", "claim", "due", "other"]) (sc := defScope s_law) (by decide +kernel)) (fun _ _ _ _ _ => gm_name 16 S.nd rfl (by first | exact Or.inl rfl | exact Or.inr rfl)) (fun _ _ _ _ _ => ts_nil) (fun _ _ _ _ _ => pm_ix ix_seq rv_ix (PM.toB (pm_dix (u1_of hr) (bm_var 4 (pv 4)) (bm_var 16 (pv 16)) (fun _ _ => rfl))) (PM.toB (pm_draw 1 GD (hr.mono (by decide)) (by rfl) (pv 1) (pm_callB (call_lenU) rc_len (by rfl) G.b_len (by decide +kernel) (am_cons (PM.toB (pm_dix (u1_of hr) (bm_var 4 (pv 4)) (bm_var 16 (pv 16)) (fun _ _ => rfl))) (am_nil))))) (fun _ _ => rfl)) (by decide))) (am_nil))) S.nd rfl (by first | exact Or.inl rfl | exact Or.inr rfl)) (ssm_cons (sm_if (tm_cmp op_notW rv_notw (PM.toB (pm_callV 8 AJ hr (pv 8) (cm_cons (pm_op op_addU rv_add (PM.toB (pm_tup (cm_cons (pm_var 9 (pv 9)) (cm_nil)))) (bm_var 11 (pv 11))) (cm_nil)))) (PM.toB (pm_bl)) (by first | exact nobehind _ (by decide) (by decide) | rfl)) (ssm_one (sm_ret (pm_bl))) (ssm_nil)) (ssm_cons (sm_set 12 (pm_draw 1 GD (hr.mono (by decide)) (by rfl) (pv 1) (pm_callB (call_lenU) rc_len (by rfl) G.b_len (by decide +kernel) (am_cons (bm_var 11 (pv 11)) (am_nil)))) S.nd rfl (by first | exact Or.inl rfl | exact Or.inr rfl)) (ssm_cons (sm_set 13 (pm_dix (u1_of hr) (bm_var 5 (pv 5)) (PM.toB (pm_ix ix_seq rv_ix (bm_var 10 (pv 10)) (bm_var 12 (pv 12)) (fun _ _ => rfl))) (fun _ _ => rfl)) S.nd rfl (by first | exact Or.inl rfl | exact Or.inr rfl)) (ssm_cons (sm_set 14 (pm_lst (cm_cons (pm_op op_addU rv_add (PM.toB (pm_op op_addU rv_add (PM.toB (pm_op op_addU rv_add (PM.toB (pm_tup (cm_cons (pm_var 9 (pv 9)) (cm_nil)))) (PM.toB (pm_sl (sl_list.or (sl_tupA.or sl_str)) (bm_var 11 (pv 11)) (om_none) (om_some (pm_var 12 (pv 12))))))) (PM.toB (pm_tup (cm_cons (pm_ix ix_seq rv_ix (bm_var 13 (pv 13)) (PM.toB (pm_draw 1 GD (hr.mono (by decide)) (by rfl) (pv 1) (pm_callB (call_lenU) rc_len (by rfl) G.b_len (by decide +kernel) (am_cons (bm_var 13 (pv 13)) (am_nil))))) (fun _ _ => rfl)) (cm_nil)))))) (PM.toB (pm_sl (sl_list.or (sl_tupA.or sl_str)) (bm_var 11 (pv 11)) (om_some (pm_op op_addU rv_add (bm_var 12 (pv 12)) (PM.toB (pm_int)))) (om_none)))) (cm_cons (pm_op op_addU rv_add (PM.toB (pm_op op_addU rv_add (PM.toB (pm_tup (cm_cons (pm_var 9 (pv 9)) (cm_nil)))) (bm_var 11 (pv 11)))) (PM.toB (pm_tup (cm_cons (pm_non) (cm_nil))))) (cm_cons (pm_op op_addU rv_add (PM.toB (pm_tup (cm_cons (pm_var 9 (pv 9)) (cm_nil)))) (PM.toB (pm_sl (sl_list.or (sl_tupA.or sl_str)) (bm_var 11 (pv 11)) (om_some (pm_int)) (om_none)))) (cm_cons (pm_op op_addU rv_add (PM.toB (pm_tup (cm_cons (pm_op op_addU rv_add (bm_var 9 (pv 9)) (PM.toB (pm_str))) (cm_nil)))) (bm_var 11 (pv 11))) (cm_cons (pm_op op_addU rv_add (PM.toB (pm_tup (cm_cons (pm_non) (cm_nil)))) (bm_var 11 (pv 11))) (cm_cons (pm_non) (cm_cons (pm_tup (cm_nil)) (cm_cons (pm_var 9 (pv 9)) (cm_nil)))))))))) S.nd rfl (by first | exact Or.inl rfl | exact Or.inr rfl)) (ssm_one (sm_for PassesOwn.never rfl (im_seq (pm_tup (cm_cons (pm_ix ix_seq rv_ix (bm_var 14 (pv 14)) (PM.toB (pm_int)) (fun _ _ => rfl)) (cm_cons (pm_ix ix_seq rv_ix (bm_var 14 (pv 14)) (PM.toB (pm_op op_addU rv_add (PM.toB (pm_int)) (PM.toB (pm_draw 1 GD (hr.mono (by decide)) (by rfl) (pv 1) (pm_int))))) (fun _ _ => rfl)) (cm_nil))))) (gm_name 15 S.nd rfl (by first | exact Or.inl rfl | exact Or.inr rfl)) (ssm_cons (sm_if (tm_cmp op_notW rv_notw (PM.toB (pm_callV 8 AJ hr (pv 8) (cm_cons (pm_var 15 (pv 15)) (cm_nil)))) (PM.toB (pm_bl)) (by first | exact nobehind _ (by decide) (by decide) | rfl)) (ssm_one (sm_ret (pm_bl))) (ssm_nil)) (ssm_one (sm_if (WM.toT (wm_and (tm_cmp (op_eqD (u64_of hr)) rv_eq (PM.toB (pm_callB (call_lenU) rc_len (by rfl) G.b_len (by decide +kernel) (am_cons (bm_var 7 (pv 7)) (am_nil)))) (PM.toB (pm_int)) (by first | exact nobehind _ (by decide) (by decide) | rfl)) (wm_and1 (tm_tru (PM.toB (pm_callB (cr_any rfl) rc_any (by rfl) G.b_any (by decide +kernel) (am_cons (PM.toB (pm_comp (own := [("paper", 17)]) rfl S.nd (im_seq (pm_tup (cm_cons (pm_tup (cm_nil)) (cm_cons (pm_int) (cm_cons (pm_non) (cm_cons (pm_tup (cm_cons (pm_tup (cm_nil)) (cm_cons (pm_tup (cm_nil)) (cm_nil)))) (cm_nil))))))) (blkOk_by (own := [("paper", 17)]) (N := ["script", "box", "told", "asked", "good", "bad", "turn", "kinds", "judge", "word", "sorts", "parts", "k", "others", "wrong", "value", "sort", "paper", "claim", "due", "other"]) (sc := defScope s_law) (by decide +kernel)) (fun _ _ _ _ _ => gm_name 17 S.nd rfl (by first | exact Or.inl rfl | exact Or.inr rfl)) (fun _ _ _ _ _ => ts_nil) (fun _ _ _ _ _ => pm_cmp op_notW rv_notw (PM.toB (pm_call F_proves hr (by rfl) (cm_cons (pm_var 15 (pv 15)) (cm_cons (pm_var 17 (pv 17)) (cm_nil))))) (PM.toB (pm_bl)) (by first | exact nobehind _ (by decide) (by decide) | rfl)) (by decide))) (am_nil)))) (fun _ => rfl))))) (ssm_one (sm_ret (pm_bl))) (ssm_nil)))))))))))))))) (ssm_cons (sm_for PassesOwn.never rfl (im_seq (pm_call0 F__law_rows hr (by rfl))) (gm_tup rfl (gsm_cons (gm_name 18 S.nd rfl (by first | exact Or.inl rfl | exact Or.inr rfl)) (gsm_cons (gm_name 17 S.nd rfl (by first | exact Or.inl rfl | exact Or.inr rfl)) (gsm_cons (gm_name 19 S.nd rfl (by first | exact Or.inl rfl | exact Or.inr rfl)) (gsm_nil))))) (ssm_cons (sm_if (tm_not (tm_tru (PM.toB (pm_call F__law_same hr (by rfl) (cm_cons (pm_call F_proves hr (by rfl) (cm_cons (pm_var 18 (pv 18)) (cm_cons (pm_var 17 (pv 17)) (cm_nil)))) (cm_cons (pm_var 19 (pv 19)) (cm_nil))))) (fun _ => rfl))) (ssm_one (sm_ret (pm_bl))) (ssm_nil)) (ssm_one (sm_if (tm_tru (PM.toB (pm_callB (cr_any rfl) rc_any (by rfl) G.b_any (by decide +kernel) (am_cons (PM.toB (pm_comp (own := [("other", 20)]) rfl S.nd (im_seq (pm_tup (cm_cons (pm_neg pm_int) (cm_cons (pm_bl) (cm_cons (pm_str) (cm_cons (pm_tup (cm_cons (pm_var 17 (pv 17)) (cm_cons (pm_var 17 (pv 17)) (cm_cons (pm_var 17 (pv 17)) (cm_cons (pm_var 17 (pv 17)) (cm_nil)))))) (cm_cons (pm_tup (cm_cons (pm_tup (cm_cons (pm_var 17 (pv 17)) (cm_nil))) (cm_cons (pm_var 17 (pv 17)) (cm_cons (pm_non) (cm_nil))))) (cm_nil)))))))) (blkOk_by (own := [("other", 20)]) (N := ["script", "box", "told", "asked", "good", "bad", "turn", "kinds", "judge", "word", "sorts", "parts", "k", "others", "wrong", "value", "sort", "paper", "claim", "due", "other"]) (sc := defScope s_law) (by decide +kernel)) (fun _ _ _ _ _ => gm_name 20 S.nd rfl (by first | exact Or.inl rfl | exact Or.inr rfl)) (fun _ _ _ _ _ => ts_nil) (fun _ _ _ _ _ => pm_cmp op_notW rv_notw (PM.toB (pm_call F_proves hr (by rfl) (cm_cons (pm_var 18 (pv 18)) (cm_cons (pm_var 20 (pv 20)) (cm_nil))))) (PM.toB (pm_bl)) (by first | exact nobehind _ (by decide) (by decide) | rfl)) (by decide))) (am_nil)))) (fun _ => rfl)) (ssm_one (sm_ret (pm_bl))) (ssm_nil))))) (ssm_one (sm_ret (pm_bl))))))
end
end K70
set_option Elab.async false
set_option linter.all false
set_option maxRecDepth 100000
set_option maxHeartbeats 2000000
set_option autoImplicit false
namespace K70
open PySem PySem.Spec PyProof.Rows L2 Fm
open Evl (Ex ex_l ex_t ex_rd)
open WPM
/-! ### _law_box -/
def spBox (K : PySem.W.Frag) : Sp := fun vs H Q _ => ∃ (a : Addr) (ns : List Int), vs = [.ref a] ∧ SqL K H a (ns.map V.int) ∧ ns.length ≤ 63 ∧ ∀ (b c : Addr) (ns' : List Int) (i j : Int) (H2 : Hp), H b = none → H c = none → BxAt H2 b c ns' i j → (∀ a o, H a = some o → H2 a = some o) → Q (.ref b) H2
section
variable {P : Program} {w : World} {K : PySem.W.Frag} {mg : Str → Option Value} {base : Heap}
abbrev sBox : Stmt := top 79
theorem sc_box : FnScope ["script"] ["script"] (defScope sBox) := ⟨rfl, rfl, rfl, by decide +kernel, rfl, by decide +kernel, by decide +kernel⟩
theorem ok_box (G : Gs K mg) {f : Addr} {fd : FuncData} (F : Fun K "_law_box" "_law_box" sBox f fd) : FnOk P w K mg base CX0 1 f fd ["script"] (spBox K) := by
  have S := sc_box
  refine F.ok S (fun vs H Q E h => ?_) (fun cdv A outer s H vs Q E hr h => ?_)
  · obtain ⟨a, ns, rfl, _⟩ := h
    rfl
  · obtain ⟨a, ns, rfl, hs, hl, k⟩ := h
    refine ⟨_, pss_one (ps_ret (pe_lst (pa_cons (pe_callTy call_list_of (by rfl) G.b_list (by decide +kernel) (pa_cons (pe_slice sl_list (pv 0) po_none (po_some pe_int)) pa_nil)) (pa_cons pe_int (pa_cons (pe_op op_add pe_int (pe_callB call_len_seq (by rfl) G.b_len (by decide +kernel) (pa_cons (pv 0) pa_nil))) pa_nil))))), ?_⟩
    refine ⟨.ref a, rfl, 63, rfl, a, _, rfl, hs, fun c hc => ?_⟩
    have hcut : ∃ ns' : List Int, cutV (ns.map V.int) none (some 63) = ns'.map V.int ∧ ns'.length ≤ 63 := by
      unfold cutV
      refine ⟨(ns.drop (HT.sIx (ns.map V.int).length 0 none)).take (HT.sIx (ns.map V.int).length (ns.map V.int).length (some 63) - HT.sIx (ns.map V.int).length 0 none), by rw [List.map_take, List.map_drop], ?_⟩
      rw [List.length_take, List.length_drop]
      omega
    obtain ⟨ns', e1, hl'⟩ := hcut
    rw [e1]
    have hs1 : SqL K (upd H c (.lst (ns'.map V.int))) a (ns.map V.int) := by
      rcases hs with (hs | ⟨o, hs⟩) | hs
      · exact .inl (.inl (by rw [upd_ne (ne_of_none hs hc)]; exact hs))
      · exact .inl (.inr ⟨o, by rw [upd_ne (ne_of_none hs hc)]; exact hs⟩)
      · exact .inr hs
    refine ⟨c, _, rfl, .inl (.of upd_same), fun c2 hc2 => ?_⟩
    have hs2 : SqL K (upd (upd H c (.lst (ns'.map V.int))) c2 (.lst (ns'.map V.int))) a (ns.map V.int) := by
      rcases hs1 with (hs | ⟨o, hs⟩) | hs
      · exact .inl (.inl (by rw [upd_ne (ne_of_none hs hc2)]; exact hs))
      · exact .inl (.inr ⟨o, by rw [upd_ne (ne_of_none hs hc2)]; exact hs⟩)
      · exact .inr hs
    refine ⟨.ref a, rfl, a, _, rfl, .inl hs2, _, _, rfl, rfl, by show 3 ≤ sizeLine; decide, fun b hb => ?_⟩
    have nbc : b ≠ c2 := fun z => by rw [z, upd_same] at hb; cases hb
    have h0 : ∀ {p : Addr}, (upd (upd H c (.lst (ns'.map V.int))) c2 (.lst (ns'.map V.int))) p = none → H p = none := fun {p} e => by
      cases z : H p with
      | none => rfl
      | some o => rw [upd_ne (ne_of_none (by rw [upd_ne (ne_of_none z hc)]; exact z) hc2), upd_ne (ne_of_none z hc), z] at e; cases e
    have hc20 : H c2 = none := by
      cases z : H c2 with
      | none => rfl
      | some o => rw [upd_ne (ne_of_none z hc), z] at hc2; cases hc2
    refine k b c2 ns' 0 _ _ (h0 hb) hc20 ⟨nbc, upd_same, by rw [upd_ne (Ne.symm nbc), upd_same], by decide, ?_, hl'⟩ fun p o e => ?_
    · have : (0 : Int) ≤ (ns.map V.int).length := Int.natCast_nonneg _
      omega
    · rw [upd_ne (ne_of_none (by rw [upd_ne (ne_of_none (by rw [upd_ne (ne_of_none e hc)]; exact e) hc2), upd_ne (ne_of_none e hc)]; exact e) hb), upd_ne (ne_of_none (by rw [upd_ne (ne_of_none e hc)]; exact e) hc2), upd_ne (ne_of_none e hc)]
      exact e
/-! ### law -/
def spLaw (K : PySem.W.Frag) : Sp := fun vs H Q _ => ∃ (a : Addr) (ns : List Int), vs = [.ref a] ∧ SqL K H a (ns.map V.int) ∧ ns.length ≤ 63 ∧ ∀ H', Q (.bl true) H'
def E0 : En := [.un, .bx, .un, .un, .un, .un, .un, .un, .un, .un, .un, .un, .un, .un, .un, .un, .un, .un, .un, .un, .un]
def isT : Fl → Bool
  | .rt (.bl b) => b
  | _ => false
def allT (o : Option (List Fl)) : Bool := match o with
  | some l => l.all isT
  | none => false
def SJ (aC aQ : Nat) : Addr → Option (List D → Option D) := fun a => if a = aC then some f_is_claim else if a = aQ then some f_is_question else none
theorem tail_eq : ∃ st, defBody s_law = st :: (defBody s_law).tail := ⟨_, rfl⟩
theorem ok_law {f fb : Addr} {fd fdb : FuncData} {aC aQ : Addr} (G : Gs K mg) (F : Fun K "law" "law" s_law f fd) (FB : Fun K "_law_box" "_law_box" sBox fb fdb) (mb : mg "_law_box" = some (.ref fb)) (bb : Binds K fdb ["script"] [])
    (hM : ∀ {b c : Addr} {f : Addr} {cdv : Value} {A : Around} {outer : List Env} {s : Shared} {H : Hp} {E : XK} (hr : Room 9 (A.deeper (envOfC "law" (defScope s_law) s.heap.objs.size f cdv))), SsM (cxOf CX0 P w K mg base N_law "law" (defScope s_law) f cdv A outer s H E).nox (some (b, c)) (defBody s_law).tail (b_law aC aQ (SJ aC aQ)))
    (ev : allT (b_law aC aQ (SJ aC aQ) E0) = true) : FnOk P w K mg base CX0 10 f fd ["script"] (spLaw K) := by
  have S := sc_law
  have GB : FnOk P w K mg base CX0 1 fb fdb ["script"] (spBox K) := ok_box G FB
  refine F.ok S (fun vs H Q E h => ?_) (fun cdv A outer s H vs Q E hr h => ?_)
  · obtain ⟨a, ns, rfl, _⟩ := h
    rfl
  · obtain ⟨a, ns, rfl, hs, hl, k⟩ := h
    obtain ⟨l, el, hall⟩ : ∃ l, b_law aC aQ (SJ aC aQ) E0 = some l ∧ l.all isT = true := by
      cases e : (b_law aC aQ (SJ aC aQ) E0 : Option (List Fl)) with
      | none => rw [show b_law aC aQ (SJ aC aQ) E0 = (none : Option (List Fl)) from e] at ev; cases ev
      | some l => exact ⟨l, rfl, by rw [show b_law aC aQ (SJ aC aQ) E0 = (some l : Option (List Fl)) from e] at ev; exact ev⟩
    -- the rest, whatever box has come: one term for all
    have rest : ∃ t, PSs (cxOf CX0 P w K mg base N_law "law" (defScope s_law) f cdv A outer s H E).nox (defBody s_law).tail t ∧ ∀ (b c : Addr) (ns' : List Int) (i j : Int) (H2 : Hp), H b = none → H c = none → BxAt H2 b c ns' i j → (∀ a o, H a = some o → H2 a = some o) → t { nx := fun _ H' => Q .non H', rt := Q } ((L2.start N_law [.ref a]).set 1 (some (.ref b))) H2 := by
      refine ⟨fun D σ H9 => ∃ (b c : Addr) (t : TS), PSs (cxOf CX0 P w K mg base N_law "law" (defScope s_law) f cdv A outer s H E).nox (defBody s_law).tail t ∧ t D σ H9, ?_, ?_⟩
      · exact ⟨fun pins s σ H D I h => let ⟨_, _, t, h1, h2⟩ := h; h1.run pins s σ H D I h2⟩
      · intro b c ns' i j H2 nb nc B kp
        obtain ⟨ts, t1, t2⟩ := (hM (b := b) (c := c) hr).ex
        refine ⟨b, c, ts, t1, t2 (Hf0 := fun _ => none) (H0 := H2) (E := E0) (Hf := fun _ => none) ⟨.refl (fun _ _ e => by cases e), ⟨B.ne, rfl, rfl, ns', i, j, B.hb, B.hc, B.i0, B.j0, B.few⟩, fun p hp => ?_, rfl, fun n s e => ?_, fun n m s t p _ e _ o _ _ _ => ?_⟩ (P := fun fl => isT fl = true) ⟨l, el, fun fl h => List.all_eq_true.mp hall fl h⟩ _ ⟨fun E σ Hf H p => (by cases p), fun d v Hf H p _ _ r => ?_, fun E σ Hf H p => (by cases p), fun E σ Hf H p => (by cases p)⟩⟩
        · rcases hp with rfl | rfl
          · rw [B.hb]; simp
          · rw [B.hc]; simp
        · have : s = .un ∨ (n = 1 ∧ s = .bx) := by
            match n, e with
            | 0, e => cases e; exact .inl rfl
            | 1, e => cases e; exact .inr ⟨rfl, rfl⟩
            | n + 2, e =>
              have := List.mem_of_getElem? (show ([Sl.un, .un, .un, .un, .un, .un, .un, .un, .un, .un, .un, .un, .un, .un, .un, .un, .un, .un, .un] : En)[n]? = some s from e)
              refine .inl ?_
              simpa using this
          rcases this with rfl | ⟨rfl, rfl⟩
          · trivial
          · exact ⟨b, c, rfl, rfl⟩
        · have : s = .un ∨ s = .bx := by
            have := List.mem_of_getElem? e
            simp [E0] at this
            rcases this with h | h | h
            · exact .inl h
            · exact .inr h
            · exact .inl h
          rcases this with rfl | rfl <;> exact o.elim
        · cases d with
          | bl x =>
            cases r
            have : x = true := p
            rw [this]; exact k _
          | _ => cases p
    obtain ⟨t, t1, t2⟩ := rest
    refine ⟨_, pss_cons (ps_set (i := 1) S.nd rfl (by first | exact Or.inl rfl | exact Or.inr rfl) (pe_call (dvs := []) (E := fun _ _ _ => False) GB (hr.mono (by decide)) (by rfl) mb FB.kp bb .nil pass0 (pa_cons (pv 0) pa_nil))) t1, ?_⟩
    exact ⟨.ref a, rfl, a, ns, rfl, hs, hl, fun b c ns' i j H2 nb nc B kp => t2 b c ns' i j H2 nb nc B kp⟩
end
end K70
set_option Elab.async false
set_option linter.all false
set_option maxRecDepth 100000
set_option maxHeartbeats 0
set_option autoImplicit false
namespace K70
open PySem Fm WPM
def allK (c : Fl → Bool) (o : Option (List Fl)) : Bool := match o with
  | some l => l.all c
  | none => false
def allOk (c : Fl → Bool) (x : Dm Fl) : Bool := allK c x
def eqNx (E : En) : Fl → Bool
  | .nx E' => eqE E' E
  | _ => false
def eqNxs : List Fl → List En → Bool
  | [], [] => true
  | a :: x, b :: y => eqNx b a && eqNxs x y
  | _, _ => false
def isNxs (x : Dm Fl) (Es : List En) : Bool := match (x : Option (List Fl)) with
  | some l => eqNxs l Es
  | none => false
theorem eqNxs_of : ∀ {l : List Fl} {Es : List En}, eqNxs l Es = true → l = Es.map .nx
  | [], [], _ => rfl
  | [], _ :: _, h => by simp [eqNxs] at h
  | _ :: _, [], h => by simp [eqNxs] at h
  | a :: x, b :: y, h => by
    simp [eqNxs] at h
    have e : a = .nx b := by
      have := h.1
      cases a <;> simp [eqNx] at this
      rw [eqE_of this]
    rw [e, eqNxs_of h.2]; rfl
theorem isNxs_of {x : Dm Fl} {Es : List En} (h : isNxs x Es = true) : x = (some (Es.map .nx) : Option (List Fl)) := by
  unfold isNxs at h
  cases e : (x : Option (List Fl)) with
  | none => rw [e] at h; cases h
  | some l => rw [e] at h; rw [eqNxs_of h]
theorem go_all {c : Fl → Bool} {mu : En → Dm Fl} : ∀ (Es : List En), (∀ e ∈ Es, allOk c (mu e) = true) → allOk c (Dm.go (fun fl => match fl with
    | .nx E' => mu E'
    | .rt d => pure (.rt d)
    | .bk E' => pure (.bk E')
    | .ct E' => pure (.ct E')) (Es.map Fl.nx)) = true
  | [], _ => rfl
  | e :: r, h => by
    have h1 := h e List.mem_cons_self
    have h2 := go_all (c := c) (mu := mu) r fun x hx => h x (List.mem_cons_of_mem _ hx)
    rw [List.map_cons]
    unfold Dm.go
    dsimp only
    unfold allOk allK at h1 h2 ⊢
    cases e1 : (mu e : Option (List Fl)) with
    | none => rw [e1] at h1; cases h1
    | some l =>
      rw [e1] at h1
      dsimp only at h1 ⊢
      split at h2
      · rename_i m e2
        rw [e2]
        dsimp only
        rw [List.all_append, h1, h2]; rfl
      · cases h2
theorem seq_ok {c : Fl → Bool} {ms mu : En → Dm Fl} {E : En} (Es : List En) (h1 : isNxs (ms E) Es = true) (h2 : ∀ e ∈ Es, allOk c (mu e) = true) : allOk c (mSeq ms mu E) = true := by
  have e := isNxs_of h1
  have := go_all (c := c) (mu := mu) Es h2
  unfold mSeq
  rw [e]
  exact this
def isDs (x : Dm (List D)) (ds : List D) : Bool := match (x : Option (List (List D))) with
  | some [l] => D.eqvL l ds
  | _ => false
theorem isDs_of {x : Dm (List D)} {ds : List D} (h : isDs x ds = true) : x = (some [ds] : Option (List (List D))) := by
  have key : ∀ o : Option (List (List D)), (match o with
      | some [l] => D.eqvL l ds
      | _ => false) = true → o = some [ds] := fun o h => by
    cases o with
    | none => cases h
    | some m =>
      cases m with
      | nil => cases h
      | cons l r =>
        cases r with
        | nil => rw [D.eqvL_of l ds h]
        | cons _ _ => cases h
  exact key x h
def isE (o : Option En) (E : En) : Bool := match o with
  | some E' => eqE E' E
  | none => false
theorem isE_of {o : Option En} {E : En} (h : isE o E = true) : o = some E := by
  cases o with
  | none => cases h
  | some E' => rw [eqE_of h]
theorem allK_eq {c : Fl → Bool} : ∀ o : Option (List Fl), allK c o = true → Option.casesOn (motive := fun _ => Bool) o false (fun l => l.all c) = true
  | none, h => h
  | some _, h => h
theorem turn_ok {ws : List Nat} {f : D → En → Option En} {ms : En → Dm Fl} {E : En} {d : D} (E2 : En) (h1 : isE (f d E) E2 = true) (h2 : allOk (okEnd ws E) (ms E2) = true) : okTurn ws f ms E d = true := by
  unfold okTurn
  rw [isE_of h1]
  dsimp only
  revert h2
  generalize ms E2 = o
  intro h2
  cases o with
  | none => exact h2
  | some l => exact h2
theorem inv_ok {ws : List Nat} {mi : En → Dm (List D)} {f : D → En → Option En} {ms : En → Dm Fl} {E : En} (ds : List D) (h1 : isDs (mi E) ds = true) (hw : eqE (wipeE E ws) E = true) (h2 : ds.all (okTurn ws f ms E) = true) : mForInv ws mi f ms E = (some [.nx E] : Option (List Fl)) := by
  unfold mForInv
  rw [isDs_of h1, eqE_of hw]
  show Dm.go _ [ds] = _
  unfold Dm.go
  rw [if_pos h2]
  rfl
theorem same_ok {n : Nat} {ws : List Nat} {mi : En → Dm (List D)} {ms : En → Dm Fl} {E : En} (ds : List D) (h1 : isDs (mi E) ds = true) (hn : n ∈ ws) (hw : eqE (wipeE E ws) E = true) (h2 : allOk (okEnd ws E) (ms E) = true) : mForSame n ws mi ms E = (some [.nx E] : Option (List Fl)) := by
  unfold mForSame
  refine inv_ok ds h1 hw (List.all_eq_true.mpr fun d _ => ?_)
  unfold okTurn
  dsimp only
  rw [if_pos hn]
  dsimp only
  revert h2
  generalize ms E = o
  intro h2
  cases o with
  | none => exact h2
  | some l => exact h2
theorem seq_one {c : Fl → Bool} {ms mu : En → Dm Fl} {E E' : En} (h1 : ms E = (some [.nx E'] : Option (List Fl))) (h2 : allOk c (mu E') = true) : allOk c (mSeq ms mu E) = true := by
  have := go_all (c := c) (mu := mu) [E'] fun e he => by rw [List.mem_singleton.mp he]; exact h2
  unfold mSeq
  rw [h1]
  exact this
/-! ### the law's own -/
def kd (i : Nat) : D := match f__law_kinds [] with
  | some (.tup l) => l.getD i .non
  | _ => .non
def gd : D := match f__law_good [] with
  | some l => l
  | _ => .non
def bd : D := match f__law_bad [] with
  | some l => l
  | _ => .non
def E1a : En := (E0.set 2 (.sh (kd 0))).set 3 (.sh (kd 1))
def E1 : En := (E1a.set 4 (.sh gd)).set 5 (.sh bd)
def ds6 : List D := [.int 0, .int 1, .int 2, .int 3, .int 4, .int 5]
def it0 : D := .tup [kd 0, .fn 340]
def it1 : D := .tup [kd 1, .fn 347]
def Ek0 : En := (E1.set 7 (.sh (kd 0))).set 8 (.sh (.fn 340))
def Ek1 : En := (E1.set 7 (.sh (kd 1))).set 8 (.sh (.fn 347))
theorem w0_0 : allOk (okEnd [7, 8, 9, 10, 16, 11, 12, 13, 14, 15, 17] E1) (b_rest 340 347 (SJ 340 347) (Ek0.set 9 (.sh (.str "explained")))) = true := by decide +kernel
theorem w0_1 : allOk (okEnd [7, 8, 9, 10, 16, 11, 12, 13, 14, 15, 17] E1) (b_rest 340 347 (SJ 340 347) (Ek0.set 9 (.sh (.str "unexplained")))) = true := by decide +kernel
theorem w0_2 : allOk (okEnd [7, 8, 9, 10, 16, 11, 12, 13, 14, 15, 17] E1) (b_rest 340 347 (SJ 340 347) (Ek0.set 9 (.sh (.str "never fewer")))) = true := by decide +kernel
theorem w0_3 : allOk (okEnd [7, 8, 9, 10, 16, 11, 12, 13, 14, 15, 17] E1) (b_rest 340 347 (SJ 340 347) (Ek0.set 9 (.sh (.str "can be read")))) = true := by decide +kernel
theorem w1_0 : allOk (okEnd [7, 8, 9, 10, 16, 11, 12, 13, 14, 15, 17] E1) (b_rest 340 347 (SJ 340 347) (Ek1.set 9 (.sh (.str "explain")))) = true := by decide +kernel
theorem w1_1 : allOk (okEnd [7, 8, 9, 10, 16, 11, 12, 13, 14, 15, 17] E1) (b_rest 340 347 (SJ 340 347) (Ek1.set 9 (.sh (.str "fewest")))) = true := by decide +kernel
theorem w1_2 : allOk (okEnd [7, 8, 9, 10, 16, 11, 12, 13, 14, 15, 17] E1) (b_rest 340 347 (SJ 340 347) (Ek1.set 9 (.sh (.str "read")))) = true := by decide +kernel
theorem k0 : allOk (okEnd [7, 8, 9, 10, 16, 11, 12, 13, 14, 15, 17] E1) (b_kind 340 347 (SJ 340 347) Ek0) = true := by
  refine seq_ok [Ek0.set 9 (.sh (.str "explained")), Ek0.set 9 (.sh (.str "unexplained")), Ek0.set 9 (.sh (.str "never fewer")), Ek0.set 9 (.sh (.str "can be read"))] (by decide +kernel) fun e he => ?_
  simp only [List.mem_cons, List.not_mem_nil, or_false] at he
  rcases he with rfl | rfl | rfl | rfl
  · exact w0_0
  · exact w0_1
  · exact w0_2
  · exact w0_3
theorem k1 : allOk (okEnd [7, 8, 9, 10, 16, 11, 12, 13, 14, 15, 17] E1) (b_kind 340 347 (SJ 340 347) Ek1) = true := by
  refine seq_ok [Ek1.set 9 (.sh (.str "explain")), Ek1.set 9 (.sh (.str "fewest")), Ek1.set 9 (.sh (.str "read"))] (by decide +kernel) fun e he => ?_
  simp only [List.mem_cons, List.not_mem_nil, or_false] at he
  rcases he with rfl | rfl | rfl
  · exact w1_0
  · exact w1_1
  · exact w1_2
theorem turn_E1 : b_turn 340 347 (SJ 340 347) E1 = (some [.nx E1] : Option (List Fl)) := by
  refine inv_ok [it0, it1] (by decide +kernel) (by decide +kernel) ?_
  rw [List.all_cons, List.all_cons, List.all_nil, turn_ok Ek0 (by decide +kernel) k0, turn_ok Ek1 (by decide +kernel) k1]
  rfl
theorem same_E1 : ((mForSame 6 [6, 7, 8, 9, 10, 16, 11, 12, 13, 14, 15, 17] (mRng rng1 (aCons (mC (.int 6)) (aNil))) (b_turn 340 347 (SJ 340 347))) : En → Dm Fl) E1 = (some [.nx E1] : Option (List Fl)) := by
  refine same_ok ds6 (by decide +kernel) (by decide) (by decide +kernel) ?_
  rw [turn_E1]
  decide +kernel
theorem rows_E1 : allOk isT (b_rows E1) = true := by decide +kernel
theorem ev_law : allT (b_law 340 347 (SJ 340 347) E0) = true :=
  show allOk isT (b_law 340 347 (SJ 340 347) E0) = true from seq_ok [E1a] (by decide +kernel) fun e he => by
    rw [List.mem_singleton.mp he]
    exact seq_ok [E1] (by decide +kernel) fun e he => by
      rw [List.mem_singleton.mp he]
      exact seq_one same_E1 rows_E1
end K70
set_option Elab.async false
set_option linter.all false
set_option maxRecDepth 100000
set_option maxHeartbeats 4000000
set_option autoImplicit false
namespace K70
open PySem PySem.Spec PyProof.Rows L2 Fm
theorem law_mk {P : Program} {w : World} {K : PySem.W.Frag} {mg : Str → Option Value} {base : Heap} {C fi fr fa : Addr} (GG : Gs K mg) (TT : Tabs K w mg) {fdi fdr fda : FuncData} (TC : ClsPT K mg C fi fr fa) (FI : Fun K "__init__" "PlainTransaction.__init__" sInit fi fdi) (FRo : Fun K "rows" "PlainTransaction.rows" sRows fr fdr) (FA : Fun K "answer" "PlainTransaction.answer" sAns fa fda)
    {f aC aQ : Addr} {fd : FuncData} (F : Fun K "law" "law" s_law f fd) (hC : mg "is_claim" = some (.ref aC)) (hQ : mg "is_question" = some (.ref aQ)) (ev : allT (b_law aC aQ (SJ aC aQ) E0) = true) : FnOk P w K mg base CX0 10 f fd ["script"] (spLaw K) := by
  have bI := FI.binds (ps := ["self", "rows"]) fun _ _ _ _ _ _ us hl => match us, hl with | [_, _], _ => rfl
  have bR := FRo.binds (ps := ["self"]) fun _ _ _ _ _ _ us hl => match us, hl with | [_], _ => rfl
  have bA := FA.binds (ps := ["self", "statement"]) fun _ _ _ _ _ _ us hl => match us, hl with | [_, _], _ => rfl
  have P_is_whole := d_is_whole (P := P) (w := w) (base := base) GG 
  have P_is_number := d_is_number (P := P) (w := w) (base := base) GG 
  have P_is_ascending := d_is_ascending (P := P) (w := w) (base := base) GG 
  have P_are_signs := d_are_signs (P := P) (w := w) (base := base) GG 
  have P_is_key := d_is_key (P := P) (w := w) (base := base) GG P_are_signs
  have P_is_stored := d_is_stored (P := P) (w := w) (base := base) GG P_are_signs
  have P_is_read := d_is_read (P := P) (w := w) (base := base) GG P_is_key P_is_number
  have P_is_write := d_is_write (P := P) (w := w) (base := base) GG P_is_key P_is_stored
  have P_value_in := d_value_in (P := P) (w := w) (base := base) GG 
  have P_with_value := d_with_value (P := P) (w := w) (base := base) GG 
  have P_keys_changed := d_keys_changed (P := P) (w := w) (base := base) GG 
  have P_read_answer := d_read_answer (P := P) (w := w) (base := base) GG P_value_in
  have P_same_answers : Df P w K mg base 4 "same_answers" 2 f_same_answers := d_same_answers (P := P) (w := w) (base := base) GG  4
  have P_plain_answers := d_plain_answers (w := w) (P := P) (base := base) GG TC FI bI FRo bR FA bA P_with_value P_read_answer
  have P_is_told_answer := d_is_told_answer (P := P) (w := w) (base := base) GG P_is_stored P_is_whole
  have P_are_inner := d_are_inner (P := P) (w := w) (base := base) GG P_is_read P_is_write
  have P_is_history_row := d_is_history_row (P := P) (w := w) (base := base) GG P_is_number P_are_inner P_is_told_answer
  have P_is_history := d_is_history (P := P) (w := w) (base := base) GG P_is_history_row
  have P_rows_by_order := d_rows_by_order (P := P) (w := w) (base := base) GG P_plain_answers P_keys_changed P_value_in P_with_value
  have P_fits_serial := d_fits_serial (P := P) (w := w) (base := base) GG P_plain_answers P_same_answers
  have P_can_follow := d_can_follow (P := P) (w := w) (base := base) GG P_rows_by_order P_fits_serial
  have P_followers := d_followers (P := P) (w := w) (base := base) GG P_can_follow
  have P_is_some_order := d_is_some_order (P := P) (w := w) (base := base) GG P_is_number
  have P_is_explaining := d_is_explaining (P := P) (w := w) (base := base) GG P_is_some_order P_can_follow
  have P_is_history_paper := d_is_history_paper (P := P) (w := w) (base := base) GG P_is_some_order P_is_ascending P_followers
  have P_is_course := d_is_course (P := P) (w := w) (base := base) GG P_is_number
  have P_spans_of := d_spans_of (P := P) (w := w) (base := base) GG 
  have P_bare_spans := d_bare_spans (P := P) (w := w) (base := base) GG 
  have P_most_hits := d_most_hits (P := P) (w := w) (base := base) GG P_spans_of P_bare_spans
  have P_is_course_paper := d_is_course_paper (P := P) (w := w) (base := base) GG P_is_number P_is_ascending P_most_hits
  have P_is_judged := d_is_judged (P := P) (w := w) (base := base) GG P_is_history
  have P_is_framed := d_is_framed (P := P) (w := w) (base := base) GG P_is_number P_is_course
  have P_is_told_reads := d_is_told_reads (P := P) (w := w) (base := base) GG P_is_framed P_is_number
  have P_has_word := d_has_word (P := P) (w := w) (base := base) GG 
  have P_is_claim := d_is_claim (P := P) (base := base) GG TT P_has_word P_is_judged P_is_told_reads
  have P_is_question := d_is_question (P := P) (base := base) GG TT P_has_word P_is_judged P_is_framed
  have P_reads_with := d_reads_with (P := P) (w := w) (base := base) GG 
  have P_are_pages_out := d_are_pages_out (P := P) (w := w) (base := base) GG 
  have P_proves_reads := d_proves_reads (P := P) (w := w) (base := base) GG P_are_pages_out P_reads_with
  have P_proves := d_proves (P := P) (w := w) (base := base) GG P_is_claim P_is_explaining P_is_history_paper P_is_course_paper P_proves_reads
  have P__law_same : Df P w K mg base 4 "_law_same" 2 f__law_same := d__law_same (P := P) (w := w) (base := base) GG  4
  have P__law_history := d__law_history (P := P) (w := w) (base := base) GG 
  have P__law_odd := d__law_odd (P := P) (w := w) (base := base) GG 
  have P__law_kinds := d__law_kinds (P := P) (w := w) (base := base) GG 
  have P__law_good := d__law_good (P := P) (w := w) (base := base) GG P__law_history
  have P__law_bad := d__law_bad (P := P) (w := w) (base := base) GG P__law_history
  have P__law_rows := d__law_rows (P := P) (w := w) (base := base) GG P__law_history P__law_odd
  obtain ⟨fb, fdb, FB, mb⟩ := GG.d__law_box.ex
  have bb := FB.binds (ps := ["script"]) fun _ _ _ _ _ _ us hl => match us, hl with | [_], _ => rfl
  obtain ⟨fl, fdl, FL, ml⟩ := GG.d__law_load.ex
  have bl := FL.binds (ps := ["box"]) fun _ _ _ _ _ _ us hl => match us, hl with | [_], _ => rfl
  obtain ⟨fw, fdw, FW, mw⟩ := GG.d__law_draw.ex
  have bw := FW.binds (ps := ["box", "many"]) fun _ _ _ _ _ _ us hl => match us, hl with | [_, _], _ => rfl
  have GL : FnOk P w K mg base CX0 1 fl fdl ["box"] spLoad := ok_load GG FL
  have GD : DrawAt P w K mg base := ⟨fw, fdw, _, ok_draw GG FW GL ml FL.kp bl, mw, FW.kp, bw⟩
  have gC : GlobOk K mg "is_claim" (.fn aC) := ⟨.ref aC, .ref aC, hC, rfl, fun _ => .fn _⟩
  have gQ : GlobOk K mg "is_question" (.fn aQ) := ⟨.ref aQ, .ref aQ, hQ, rfl, fun _ => .fn _⟩
  have AJ : ∀ a g, SJ aC aQ a = some g → Held1 P w K mg base 9 a 1 g := by
    intro a g e
    unfold SJ at e
    split at e
    · cases e
      rename_i h
      subst h
      obtain ⟨f, fd, ps, G1, hm, hk, hb⟩ := P_is_claim.ex
      rw [hC] at hm; cases hm
      exact ⟨fd, ps, G1.mono (by decide), hk, hb⟩
    · split at e
      · cases e
        rename_i h
        subst h
        obtain ⟨f, fd, ps, G1, hm, hk, hb⟩ := P_is_question.ex
        rw [hQ] at hm; cases hm
        exact ⟨fd, ps, G1.mono (by decide), hk, hb⟩
      · cases e
  exact ok_law GG F FB mb bb (fun hr => m_law GG GD gC gQ AJ P__law_kinds P__law_bad P__law_good P_proves P__law_rows P__law_same hr) ev
theorem all_mk {l : PySem.W.OpenLaw} {w : World} {K : PySem.W.Frag} {h : Heap} {mg : Str → Option Value} {fz : Addr} (X : K.In h) (G : h.Ns mainGlobals mg) (hfa : mg "law" = some (.ref fz))
    {a_DEGREES a_KINDS xf_is_whole xf_is_number xf_is_ascending xf_are_signs xf_is_key xf_is_stored xf_is_read xf_is_write xf_keys_changed xf_value_in xf_with_value xf_read_answer xf_plain_answers xf_same_answers xf_is_told_answer xf_are_inner xf_is_history_row xf_is_history xf_rows_by_order xf_fits_serial xf_can_follow xf_followers xf_is_some_order xf_is_explaining xf_is_history_paper xf_is_course xf_spans_of xf_bare_spans xf_most_hits xf_is_course_paper xf_is_judged xf_is_framed xf_is_told_reads xf_has_word xf_is_claim xf_is_question xf_reads_with xf_are_pages_out xf_proves_reads xf_proves xf__law_box xf__law_load xf__law_draw xf__law_same xf__law_history xf__law_odd xf__law_kinds xf__law_good xf__law_bad xf__law_rows xf_law CP xp_init xp_rows xp_answer dFORMS dASKED : Addr} {od_DEGREES od_KINDS odf_is_whole anf_is_whole odf_is_number anf_is_number odf_is_ascending anf_is_ascending odf_are_signs anf_are_signs odf_is_key anf_is_key odf_is_stored anf_is_stored odf_is_read anf_is_read odf_is_write anf_is_write odf_keys_changed anf_keys_changed odf_value_in anf_value_in odf_with_value anf_with_value odf_read_answer anf_read_answer odf_plain_answers anf_plain_answers odf_same_answers anf_same_answers odf_is_told_answer anf_is_told_answer odf_are_inner anf_are_inner odf_is_history_row anf_is_history_row odf_is_history anf_is_history odf_rows_by_order anf_rows_by_order odf_fits_serial anf_fits_serial odf_can_follow anf_can_follow odf_followers anf_followers odf_is_some_order anf_is_some_order odf_is_explaining anf_is_explaining odf_is_history_paper anf_is_history_paper odf_is_course anf_is_course odf_spans_of anf_spans_of odf_bare_spans anf_bare_spans odf_most_hits anf_most_hits odf_is_course_paper anf_is_course_paper odf_is_judged anf_is_judged odf_is_framed anf_is_framed odf_is_told_reads anf_is_told_reads odf_has_word anf_has_word odf_is_claim anf_is_claim odf_is_question anf_is_question odf_reads_with anf_reads_with odf_are_pages_out anf_are_pages_out odf_proves_reads anf_proves_reads odf_proves anf_proves odf__law_box anf__law_box odf__law_load anf__law_load odf__law_draw anf__law_draw odf__law_same anf__law_same odf__law_history anf__law_history odf__law_odd anf__law_odd odf__law_kinds anf__law_kinds odf__law_good anf__law_good odf__law_bad anf__law_bad odf__law_rows anf__law_rows odf_law anf_law odp_init anp_init odp_rows anp_rows odp_answer anp_answer : Option Addr} {sl_DEGREES sl_KINDS slf_is_whole slf_is_number slf_is_ascending slf_are_signs slf_is_key slf_is_stored slf_is_read slf_is_write slf_keys_changed slf_value_in slf_with_value slf_read_answer slf_plain_answers slf_same_answers slf_is_told_answer slf_are_inner slf_is_history_row slf_is_history slf_rows_by_order slf_fits_serial slf_can_follow slf_followers slf_is_some_order slf_is_explaining slf_is_history_paper slf_is_course slf_spans_of slf_bare_spans slf_most_hits slf_is_course_paper slf_is_judged slf_is_framed slf_is_told_reads slf_has_word slf_is_claim slf_is_question slf_reads_with slf_are_pages_out slf_proves_reads slf_proves slf__law_box slf__law_load slf__law_draw slf__law_same slf__law_history slf__law_odd slf__law_kinds slf__law_good slf__law_bad slf__law_rows slf_law slp_init slp_rows slp_answer : Array (Option Value)} {ocf_is_whole kVf_is_whole dcf_is_whole pmf_is_whole cdf_is_whole ctf_is_whole ocf_is_number kVf_is_number dcf_is_number pmf_is_number cdf_is_number ctf_is_number ocf_is_ascending kVf_is_ascending dcf_is_ascending pmf_is_ascending cdf_is_ascending ctf_is_ascending ocf_are_signs kVf_are_signs dcf_are_signs pmf_are_signs cdf_are_signs ctf_are_signs ocf_is_key kVf_is_key dcf_is_key pmf_is_key cdf_is_key ctf_is_key ocf_is_stored kVf_is_stored dcf_is_stored pmf_is_stored cdf_is_stored ctf_is_stored ocf_is_read kVf_is_read dcf_is_read pmf_is_read cdf_is_read ctf_is_read ocf_is_write kVf_is_write dcf_is_write pmf_is_write cdf_is_write ctf_is_write ocf_keys_changed kVf_keys_changed dcf_keys_changed pmf_keys_changed cdf_keys_changed ctf_keys_changed ocf_value_in kVf_value_in dcf_value_in pmf_value_in cdf_value_in ctf_value_in ocf_with_value kVf_with_value dcf_with_value pmf_with_value cdf_with_value ctf_with_value ocf_read_answer kVf_read_answer dcf_read_answer pmf_read_answer cdf_read_answer ctf_read_answer ocf_plain_answers kVf_plain_answers dcf_plain_answers pmf_plain_answers cdf_plain_answers ctf_plain_answers ocf_same_answers kVf_same_answers dcf_same_answers pmf_same_answers cdf_same_answers ctf_same_answers ocf_is_told_answer kVf_is_told_answer dcf_is_told_answer pmf_is_told_answer cdf_is_told_answer ctf_is_told_answer ocf_are_inner kVf_are_inner dcf_are_inner pmf_are_inner cdf_are_inner ctf_are_inner ocf_is_history_row kVf_is_history_row dcf_is_history_row pmf_is_history_row cdf_is_history_row ctf_is_history_row ocf_is_history kVf_is_history dcf_is_history pmf_is_history cdf_is_history ctf_is_history ocf_rows_by_order kVf_rows_by_order dcf_rows_by_order pmf_rows_by_order cdf_rows_by_order ctf_rows_by_order ocf_fits_serial kVf_fits_serial dcf_fits_serial pmf_fits_serial cdf_fits_serial ctf_fits_serial ocf_can_follow kVf_can_follow dcf_can_follow pmf_can_follow cdf_can_follow ctf_can_follow ocf_followers kVf_followers dcf_followers pmf_followers cdf_followers ctf_followers ocf_is_some_order kVf_is_some_order dcf_is_some_order pmf_is_some_order cdf_is_some_order ctf_is_some_order ocf_is_explaining kVf_is_explaining dcf_is_explaining pmf_is_explaining cdf_is_explaining ctf_is_explaining ocf_is_history_paper kVf_is_history_paper dcf_is_history_paper pmf_is_history_paper cdf_is_history_paper ctf_is_history_paper ocf_is_course kVf_is_course dcf_is_course pmf_is_course cdf_is_course ctf_is_course ocf_spans_of kVf_spans_of dcf_spans_of pmf_spans_of cdf_spans_of ctf_spans_of ocf_bare_spans kVf_bare_spans dcf_bare_spans pmf_bare_spans cdf_bare_spans ctf_bare_spans ocf_most_hits kVf_most_hits dcf_most_hits pmf_most_hits cdf_most_hits ctf_most_hits ocf_is_course_paper kVf_is_course_paper dcf_is_course_paper pmf_is_course_paper cdf_is_course_paper ctf_is_course_paper ocf_is_judged kVf_is_judged dcf_is_judged pmf_is_judged cdf_is_judged ctf_is_judged ocf_is_framed kVf_is_framed dcf_is_framed pmf_is_framed cdf_is_framed ctf_is_framed ocf_is_told_reads kVf_is_told_reads dcf_is_told_reads pmf_is_told_reads cdf_is_told_reads ctf_is_told_reads ocf_has_word kVf_has_word dcf_has_word pmf_has_word cdf_has_word ctf_has_word ocf_is_claim kVf_is_claim dcf_is_claim pmf_is_claim cdf_is_claim ctf_is_claim ocf_is_question kVf_is_question dcf_is_question pmf_is_question cdf_is_question ctf_is_question ocf_reads_with kVf_reads_with dcf_reads_with pmf_reads_with cdf_reads_with ctf_reads_with ocf_are_pages_out kVf_are_pages_out dcf_are_pages_out pmf_are_pages_out cdf_are_pages_out ctf_are_pages_out ocf_proves_reads kVf_proves_reads dcf_proves_reads pmf_proves_reads cdf_proves_reads ctf_proves_reads ocf_proves kVf_proves dcf_proves pmf_proves cdf_proves ctf_proves ocf__law_box kVf__law_box dcf__law_box pmf__law_box cdf__law_box ctf__law_box ocf__law_load kVf__law_load dcf__law_load pmf__law_load cdf__law_load ctf__law_load ocf__law_draw kVf__law_draw dcf__law_draw pmf__law_draw cdf__law_draw ctf__law_draw ocf__law_same kVf__law_same dcf__law_same pmf__law_same cdf__law_same ctf__law_same ocf__law_history kVf__law_history dcf__law_history pmf__law_history cdf__law_history ctf__law_history ocf__law_odd kVf__law_odd dcf__law_odd pmf__law_odd cdf__law_odd ctf__law_odd ocf__law_kinds kVf__law_kinds dcf__law_kinds pmf__law_kinds cdf__law_kinds ctf__law_kinds ocf__law_good kVf__law_good dcf__law_good pmf__law_good cdf__law_good ctf__law_good ocf__law_bad kVf__law_bad dcf__law_bad pmf__law_bad cdf__law_bad ctf__law_bad ocf__law_rows kVf__law_rows dcf__law_rows pmf__law_rows cdf__law_rows ctf__law_rows ocf_law kVf_law dcf_law pmf_law cdf_law ctf_law ocp_init kVp_init dcp_init pmp_init cdp_init ctp_init ocp_rows kVp_rows dcp_rows pmp_rows cdp_rows ctp_rows ocp_answer kVp_answer dcp_answer pmp_answer cdp_answer ctp_answer : Value} {t_SIGNS t1_DEGREES t2_DEGREES t1_KINDS t2_KINDS t_MOST_KEY t_MOST_VALUE t_MOST_MANY t_MOST_FRAMES t_MOST_JUDGED t_GREATEST_TIME t_MOST_COURSE t_GREATEST_PAGE_NUMBER : Tok} {n_DEGREES n_KINDS nFORMS nASKED : Nat} {esFORMS esASKED : Array DictEntry}
    (c_SIGNS : PySem.W.nsIn K mainGlobals "SIGNS" = some (some (.str "abcdefghijklmnopqrstuvwxyz0123456789-" t_SIGNS)))
    (c_DEGREES : PySem.W.nsIn K mainGlobals "DEGREES" = some (some (.ref a_DEGREES)))
    (l_c_DEGREES : K.lookup a_DEGREES = some ⟨.type "tuple", od_DEGREES, .seq #[.str "serial" t1_DEGREES, .str "snapshot" t2_DEGREES] n_DEGREES, sl_DEGREES⟩)
    (c_KINDS : PySem.W.nsIn K mainGlobals "KINDS" = some (some (.ref a_KINDS)))
    (l_c_KINDS : K.lookup a_KINDS = some ⟨.type "tuple", od_KINDS, .seq #[.str "done" t1_KINDS, .str "undone" t2_KINDS] n_KINDS, sl_KINDS⟩)
    (c_MOST_KEY : PySem.W.nsIn K mainGlobals "MOST_KEY" = some (some (.int 12 t_MOST_KEY)))
    (c_MOST_VALUE : PySem.W.nsIn K mainGlobals "MOST_VALUE" = some (some (.int 200 t_MOST_VALUE)))
    (c_MOST_MANY : PySem.W.nsIn K mainGlobals "MOST_MANY" = some (some (.int 200 t_MOST_MANY)))
    (c_MOST_FRAMES : PySem.W.nsIn K mainGlobals "MOST_FRAMES" = some (some (.int 1000 t_MOST_FRAMES)))
    (c_MOST_JUDGED : PySem.W.nsIn K mainGlobals "MOST_JUDGED" = some (some (.int 7 t_MOST_JUDGED)))
    (c_GREATEST_TIME : PySem.W.nsIn K mainGlobals "GREATEST_TIME" = some (some (.int 1000000000 t_GREATEST_TIME)))
    (c_MOST_COURSE : PySem.W.nsIn K mainGlobals "MOST_COURSE" = some (some (.int 120 t_MOST_COURSE)))
    (c_GREATEST_PAGE_NUMBER : PySem.W.nsIn K mainGlobals "GREATEST_PAGE_NUMBER" = some (some (.int 1000000000 t_GREATEST_PAGE_NUMBER)))
    (b_len : PySem.W.nsIn K mainGlobals "len" = some none)
    (b_isinstance : PySem.W.nsIn K mainGlobals "isinstance" = some none)
    (b_int : PySem.W.nsIn K mainGlobals "int" = some none)
    (b_bool : PySem.W.nsIn K mainGlobals "bool" = some none)
    (b_str : PySem.W.nsIn K mainGlobals "str" = some none)
    (b_tuple : PySem.W.nsIn K mainGlobals "tuple" = some none)
    (b_list : PySem.W.nsIn K mainGlobals "list" = some none)
    (b_all : PySem.W.nsIn K mainGlobals "all" = some none)
    (b_any : PySem.W.nsIn K mainGlobals "any" = some none)
    (b_sum : PySem.W.nsIn K mainGlobals "sum" = some none)
    (b_range : PySem.W.nsIn K mainGlobals "range" = some none)
    (b_zip : PySem.W.nsIn K mainGlobals "zip" = some none)
    (b_enumerate : PySem.W.nsIn K mainGlobals "enumerate" = some none)
    (b_set : PySem.W.nsIn K mainGlobals "set" = some none)
    (b_sorted : PySem.W.nsIn K mainGlobals "sorted" = some none)
    (af_is_whole : PySem.W.nsIn K mainGlobals "is_whole" = some (some (.ref xf_is_whole)))
    (lf_is_whole : K.lookup xf_is_whole = some ⟨ocf_is_whole, odf_is_whole, .func (PySem.W.fnOf "is_whole" "is_whole" (defArgs (top 5)) (defBody (top 5)) (defScope (top 5)) .none kVf_is_whole dcf_is_whole pmf_is_whole anf_is_whole cdf_is_whole ctf_is_whole), slf_is_whole⟩)
    (cf_is_whole : PySem.W.codeIn K cdf_is_whole "is_whole" = true)
    (kf_is_whole : PySem.W.keepIn K (.ref xf_is_whole) = true)
    (af_is_number : PySem.W.nsIn K mainGlobals "is_number" = some (some (.ref xf_is_number)))
    (lf_is_number : K.lookup xf_is_number = some ⟨ocf_is_number, odf_is_number, .func (PySem.W.fnOf "is_number" "is_number" (defArgs (top 6)) (defBody (top 6)) (defScope (top 6)) .none kVf_is_number dcf_is_number pmf_is_number anf_is_number cdf_is_number ctf_is_number), slf_is_number⟩)
    (cf_is_number : PySem.W.codeIn K cdf_is_number "is_number" = true)
    (kf_is_number : PySem.W.keepIn K (.ref xf_is_number) = true)
    (af_is_ascending : PySem.W.nsIn K mainGlobals "is_ascending" = some (some (.ref xf_is_ascending)))
    (lf_is_ascending : K.lookup xf_is_ascending = some ⟨ocf_is_ascending, odf_is_ascending, .func (PySem.W.fnOf "is_ascending" "is_ascending" (defArgs (top 7)) (defBody (top 7)) (defScope (top 7)) .none kVf_is_ascending dcf_is_ascending pmf_is_ascending anf_is_ascending cdf_is_ascending ctf_is_ascending), slf_is_ascending⟩)
    (cf_is_ascending : PySem.W.codeIn K cdf_is_ascending "is_ascending" = true)
    (kf_is_ascending : PySem.W.keepIn K (.ref xf_is_ascending) = true)
    (af_are_signs : PySem.W.nsIn K mainGlobals "are_signs" = some (some (.ref xf_are_signs)))
    (lf_are_signs : K.lookup xf_are_signs = some ⟨ocf_are_signs, odf_are_signs, .func (PySem.W.fnOf "are_signs" "are_signs" (defArgs (top 13)) (defBody (top 13)) (defScope (top 13)) .none kVf_are_signs dcf_are_signs pmf_are_signs anf_are_signs cdf_are_signs ctf_are_signs), slf_are_signs⟩)
    (cf_are_signs : PySem.W.codeIn K cdf_are_signs "are_signs" = true)
    (kf_are_signs : PySem.W.keepIn K (.ref xf_are_signs) = true)
    (af_is_key : PySem.W.nsIn K mainGlobals "is_key" = some (some (.ref xf_is_key)))
    (lf_is_key : K.lookup xf_is_key = some ⟨ocf_is_key, odf_is_key, .func (PySem.W.fnOf "is_key" "is_key" (defArgs (top 14)) (defBody (top 14)) (defScope (top 14)) .none kVf_is_key dcf_is_key pmf_is_key anf_is_key cdf_is_key ctf_is_key), slf_is_key⟩)
    (cf_is_key : PySem.W.codeIn K cdf_is_key "is_key" = true)
    (kf_is_key : PySem.W.keepIn K (.ref xf_is_key) = true)
    (af_is_stored : PySem.W.nsIn K mainGlobals "is_stored" = some (some (.ref xf_is_stored)))
    (lf_is_stored : K.lookup xf_is_stored = some ⟨ocf_is_stored, odf_is_stored, .func (PySem.W.fnOf "is_stored" "is_stored" (defArgs (top 15)) (defBody (top 15)) (defScope (top 15)) .none kVf_is_stored dcf_is_stored pmf_is_stored anf_is_stored cdf_is_stored ctf_is_stored), slf_is_stored⟩)
    (cf_is_stored : PySem.W.codeIn K cdf_is_stored "is_stored" = true)
    (kf_is_stored : PySem.W.keepIn K (.ref xf_is_stored) = true)
    (af_is_read : PySem.W.nsIn K mainGlobals "is_read" = some (some (.ref xf_is_read)))
    (lf_is_read : K.lookup xf_is_read = some ⟨ocf_is_read, odf_is_read, .func (PySem.W.fnOf "is_read" "is_read" (defArgs (top 25)) (defBody (top 25)) (defScope (top 25)) .none kVf_is_read dcf_is_read pmf_is_read anf_is_read cdf_is_read ctf_is_read), slf_is_read⟩)
    (cf_is_read : PySem.W.codeIn K cdf_is_read "is_read" = true)
    (kf_is_read : PySem.W.keepIn K (.ref xf_is_read) = true)
    (af_is_write : PySem.W.nsIn K mainGlobals "is_write" = some (some (.ref xf_is_write)))
    (lf_is_write : K.lookup xf_is_write = some ⟨ocf_is_write, odf_is_write, .func (PySem.W.fnOf "is_write" "is_write" (defArgs (top 26)) (defBody (top 26)) (defScope (top 26)) .none kVf_is_write dcf_is_write pmf_is_write anf_is_write cdf_is_write ctf_is_write), slf_is_write⟩)
    (cf_is_write : PySem.W.codeIn K cdf_is_write "is_write" = true)
    (kf_is_write : PySem.W.keepIn K (.ref xf_is_write) = true)
    (af_keys_changed : PySem.W.nsIn K mainGlobals "keys_changed" = some (some (.ref xf_keys_changed)))
    (lf_keys_changed : K.lookup xf_keys_changed = some ⟨ocf_keys_changed, odf_keys_changed, .func (PySem.W.fnOf "keys_changed" "keys_changed" (defArgs (top 28)) (defBody (top 28)) (defScope (top 28)) .none kVf_keys_changed dcf_keys_changed pmf_keys_changed anf_keys_changed cdf_keys_changed ctf_keys_changed), slf_keys_changed⟩)
    (cf_keys_changed : PySem.W.codeIn K cdf_keys_changed "keys_changed" = true)
    (kf_keys_changed : PySem.W.keepIn K (.ref xf_keys_changed) = true)
    (af_value_in : PySem.W.nsIn K mainGlobals "value_in" = some (some (.ref xf_value_in)))
    (lf_value_in : K.lookup xf_value_in = some ⟨ocf_value_in, odf_value_in, .func (PySem.W.fnOf "value_in" "value_in" (defArgs (top 30)) (defBody (top 30)) (defScope (top 30)) .none kVf_value_in dcf_value_in pmf_value_in anf_value_in cdf_value_in ctf_value_in), slf_value_in⟩)
    (cf_value_in : PySem.W.codeIn K cdf_value_in "value_in" = true)
    (kf_value_in : PySem.W.keepIn K (.ref xf_value_in) = true)
    (af_with_value : PySem.W.nsIn K mainGlobals "with_value" = some (some (.ref xf_with_value)))
    (lf_with_value : K.lookup xf_with_value = some ⟨ocf_with_value, odf_with_value, .func (PySem.W.fnOf "with_value" "with_value" (defArgs (top 31)) (defBody (top 31)) (defScope (top 31)) .none kVf_with_value dcf_with_value pmf_with_value anf_with_value cdf_with_value ctf_with_value), slf_with_value⟩)
    (cf_with_value : PySem.W.codeIn K cdf_with_value "with_value" = true)
    (kf_with_value : PySem.W.keepIn K (.ref xf_with_value) = true)
    (af_read_answer : PySem.W.nsIn K mainGlobals "read_answer" = some (some (.ref xf_read_answer)))
    (lf_read_answer : K.lookup xf_read_answer = some ⟨ocf_read_answer, odf_read_answer, .func (PySem.W.fnOf "read_answer" "read_answer" (defArgs (top 34)) (defBody (top 34)) (defScope (top 34)) .none kVf_read_answer dcf_read_answer pmf_read_answer anf_read_answer cdf_read_answer ctf_read_answer), slf_read_answer⟩)
    (cf_read_answer : PySem.W.codeIn K cdf_read_answer "read_answer" = true)
    (kf_read_answer : PySem.W.keepIn K (.ref xf_read_answer) = true)
    (af_plain_answers : PySem.W.nsIn K mainGlobals "plain_answers" = some (some (.ref xf_plain_answers)))
    (lf_plain_answers : K.lookup xf_plain_answers = some ⟨ocf_plain_answers, odf_plain_answers, .func (PySem.W.fnOf "plain_answers" "plain_answers" (defArgs (top 36)) (defBody (top 36)) (defScope (top 36)) .none kVf_plain_answers dcf_plain_answers pmf_plain_answers anf_plain_answers cdf_plain_answers ctf_plain_answers), slf_plain_answers⟩)
    (cf_plain_answers : PySem.W.codeIn K cdf_plain_answers "plain_answers" = true)
    (kf_plain_answers : PySem.W.keepIn K (.ref xf_plain_answers) = true)
    (af_same_answers : PySem.W.nsIn K mainGlobals "same_answers" = some (some (.ref xf_same_answers)))
    (lf_same_answers : K.lookup xf_same_answers = some ⟨ocf_same_answers, odf_same_answers, .func (PySem.W.fnOf "same_answers" "same_answers" (defArgs (top 37)) (defBody (top 37)) (defScope (top 37)) .none kVf_same_answers dcf_same_answers pmf_same_answers anf_same_answers cdf_same_answers ctf_same_answers), slf_same_answers⟩)
    (cf_same_answers : PySem.W.codeIn K cdf_same_answers "same_answers" = true)
    (kf_same_answers : PySem.W.keepIn K (.ref xf_same_answers) = true)
    (af_is_told_answer : PySem.W.nsIn K mainGlobals "is_told_answer" = some (some (.ref xf_is_told_answer)))
    (lf_is_told_answer : K.lookup xf_is_told_answer = some ⟨ocf_is_told_answer, odf_is_told_answer, .func (PySem.W.fnOf "is_told_answer" "is_told_answer" (defArgs (top 43)) (defBody (top 43)) (defScope (top 43)) .none kVf_is_told_answer dcf_is_told_answer pmf_is_told_answer anf_is_told_answer cdf_is_told_answer ctf_is_told_answer), slf_is_told_answer⟩)
    (cf_is_told_answer : PySem.W.codeIn K cdf_is_told_answer "is_told_answer" = true)
    (kf_is_told_answer : PySem.W.keepIn K (.ref xf_is_told_answer) = true)
    (af_are_inner : PySem.W.nsIn K mainGlobals "are_inner" = some (some (.ref xf_are_inner)))
    (lf_are_inner : K.lookup xf_are_inner = some ⟨ocf_are_inner, odf_are_inner, .func (PySem.W.fnOf "are_inner" "are_inner" (defArgs (top 44)) (defBody (top 44)) (defScope (top 44)) .none kVf_are_inner dcf_are_inner pmf_are_inner anf_are_inner cdf_are_inner ctf_are_inner), slf_are_inner⟩)
    (cf_are_inner : PySem.W.codeIn K cdf_are_inner "are_inner" = true)
    (kf_are_inner : PySem.W.keepIn K (.ref xf_are_inner) = true)
    (af_is_history_row : PySem.W.nsIn K mainGlobals "is_history_row" = some (some (.ref xf_is_history_row)))
    (lf_is_history_row : K.lookup xf_is_history_row = some ⟨ocf_is_history_row, odf_is_history_row, .func (PySem.W.fnOf "is_history_row" "is_history_row" (defArgs (top 45)) (defBody (top 45)) (defScope (top 45)) .none kVf_is_history_row dcf_is_history_row pmf_is_history_row anf_is_history_row cdf_is_history_row ctf_is_history_row), slf_is_history_row⟩)
    (cf_is_history_row : PySem.W.codeIn K cdf_is_history_row "is_history_row" = true)
    (kf_is_history_row : PySem.W.keepIn K (.ref xf_is_history_row) = true)
    (af_is_history : PySem.W.nsIn K mainGlobals "is_history" = some (some (.ref xf_is_history)))
    (lf_is_history : K.lookup xf_is_history = some ⟨ocf_is_history, odf_is_history, .func (PySem.W.fnOf "is_history" "is_history" (defArgs (top 46)) (defBody (top 46)) (defScope (top 46)) .none kVf_is_history dcf_is_history pmf_is_history anf_is_history cdf_is_history ctf_is_history), slf_is_history⟩)
    (cf_is_history : PySem.W.codeIn K cdf_is_history "is_history" = true)
    (kf_is_history : PySem.W.keepIn K (.ref xf_is_history) = true)
    (af_rows_by_order : PySem.W.nsIn K mainGlobals "rows_by_order" = some (some (.ref xf_rows_by_order)))
    (lf_rows_by_order : K.lookup xf_rows_by_order = some ⟨ocf_rows_by_order, odf_rows_by_order, .func (PySem.W.fnOf "rows_by_order" "rows_by_order" (defArgs (top 47)) (defBody (top 47)) (defScope (top 47)) .none kVf_rows_by_order dcf_rows_by_order pmf_rows_by_order anf_rows_by_order cdf_rows_by_order ctf_rows_by_order), slf_rows_by_order⟩)
    (cf_rows_by_order : PySem.W.codeIn K cdf_rows_by_order "rows_by_order" = true)
    (kf_rows_by_order : PySem.W.keepIn K (.ref xf_rows_by_order) = true)
    (af_fits_serial : PySem.W.nsIn K mainGlobals "fits_serial" = some (some (.ref xf_fits_serial)))
    (lf_fits_serial : K.lookup xf_fits_serial = some ⟨ocf_fits_serial, odf_fits_serial, .func (PySem.W.fnOf "fits_serial" "fits_serial" (defArgs (top 48)) (defBody (top 48)) (defScope (top 48)) .none kVf_fits_serial dcf_fits_serial pmf_fits_serial anf_fits_serial cdf_fits_serial ctf_fits_serial), slf_fits_serial⟩)
    (cf_fits_serial : PySem.W.codeIn K cdf_fits_serial "fits_serial" = true)
    (kf_fits_serial : PySem.W.keepIn K (.ref xf_fits_serial) = true)
    (af_can_follow : PySem.W.nsIn K mainGlobals "can_follow" = some (some (.ref xf_can_follow)))
    (lf_can_follow : K.lookup xf_can_follow = some ⟨ocf_can_follow, odf_can_follow, .func (PySem.W.fnOf "can_follow" "can_follow" (defArgs (top 51)) (defBody (top 51)) (defScope (top 51)) .none kVf_can_follow dcf_can_follow pmf_can_follow anf_can_follow cdf_can_follow ctf_can_follow), slf_can_follow⟩)
    (cf_can_follow : PySem.W.codeIn K cdf_can_follow "can_follow" = true)
    (kf_can_follow : PySem.W.keepIn K (.ref xf_can_follow) = true)
    (af_followers : PySem.W.nsIn K mainGlobals "followers" = some (some (.ref xf_followers)))
    (lf_followers : K.lookup xf_followers = some ⟨ocf_followers, odf_followers, .func (PySem.W.fnOf "followers" "followers" (defArgs (top 52)) (defBody (top 52)) (defScope (top 52)) .none kVf_followers dcf_followers pmf_followers anf_followers cdf_followers ctf_followers), slf_followers⟩)
    (cf_followers : PySem.W.codeIn K cdf_followers "followers" = true)
    (kf_followers : PySem.W.keepIn K (.ref xf_followers) = true)
    (af_is_some_order : PySem.W.nsIn K mainGlobals "is_some_order" = some (some (.ref xf_is_some_order)))
    (lf_is_some_order : K.lookup xf_is_some_order = some ⟨ocf_is_some_order, odf_is_some_order, .func (PySem.W.fnOf "is_some_order" "is_some_order" (defArgs (top 53)) (defBody (top 53)) (defScope (top 53)) .none kVf_is_some_order dcf_is_some_order pmf_is_some_order anf_is_some_order cdf_is_some_order ctf_is_some_order), slf_is_some_order⟩)
    (cf_is_some_order : PySem.W.codeIn K cdf_is_some_order "is_some_order" = true)
    (kf_is_some_order : PySem.W.keepIn K (.ref xf_is_some_order) = true)
    (af_is_explaining : PySem.W.nsIn K mainGlobals "is_explaining" = some (some (.ref xf_is_explaining)))
    (lf_is_explaining : K.lookup xf_is_explaining = some ⟨ocf_is_explaining, odf_is_explaining, .func (PySem.W.fnOf "is_explaining" "is_explaining" (defArgs (top 54)) (defBody (top 54)) (defScope (top 54)) .none kVf_is_explaining dcf_is_explaining pmf_is_explaining anf_is_explaining cdf_is_explaining ctf_is_explaining), slf_is_explaining⟩)
    (cf_is_explaining : PySem.W.codeIn K cdf_is_explaining "is_explaining" = true)
    (kf_is_explaining : PySem.W.keepIn K (.ref xf_is_explaining) = true)
    (af_is_history_paper : PySem.W.nsIn K mainGlobals "is_history_paper" = some (some (.ref xf_is_history_paper)))
    (lf_is_history_paper : K.lookup xf_is_history_paper = some ⟨ocf_is_history_paper, odf_is_history_paper, .func (PySem.W.fnOf "is_history_paper" "is_history_paper" (defArgs (top 55)) (defBody (top 55)) (defScope (top 55)) .none kVf_is_history_paper dcf_is_history_paper pmf_is_history_paper anf_is_history_paper cdf_is_history_paper ctf_is_history_paper), slf_is_history_paper⟩)
    (cf_is_history_paper : PySem.W.codeIn K cdf_is_history_paper "is_history_paper" = true)
    (kf_is_history_paper : PySem.W.keepIn K (.ref xf_is_history_paper) = true)
    (af_is_course : PySem.W.nsIn K mainGlobals "is_course" = some (some (.ref xf_is_course)))
    (lf_is_course : K.lookup xf_is_course = some ⟨ocf_is_course, odf_is_course, .func (PySem.W.fnOf "is_course" "is_course" (defArgs (top 59)) (defBody (top 59)) (defScope (top 59)) .none kVf_is_course dcf_is_course pmf_is_course anf_is_course cdf_is_course ctf_is_course), slf_is_course⟩)
    (cf_is_course : PySem.W.codeIn K cdf_is_course "is_course" = true)
    (kf_is_course : PySem.W.keepIn K (.ref xf_is_course) = true)
    (af_spans_of : PySem.W.nsIn K mainGlobals "spans_of" = some (some (.ref xf_spans_of)))
    (lf_spans_of : K.lookup xf_spans_of = some ⟨ocf_spans_of, odf_spans_of, .func (PySem.W.fnOf "spans_of" "spans_of" (defArgs (top 60)) (defBody (top 60)) (defScope (top 60)) .none kVf_spans_of dcf_spans_of pmf_spans_of anf_spans_of cdf_spans_of ctf_spans_of), slf_spans_of⟩)
    (cf_spans_of : PySem.W.codeIn K cdf_spans_of "spans_of" = true)
    (kf_spans_of : PySem.W.keepIn K (.ref xf_spans_of) = true)
    (af_bare_spans : PySem.W.nsIn K mainGlobals "bare_spans" = some (some (.ref xf_bare_spans)))
    (lf_bare_spans : K.lookup xf_bare_spans = some ⟨ocf_bare_spans, odf_bare_spans, .func (PySem.W.fnOf "bare_spans" "bare_spans" (defArgs (top 61)) (defBody (top 61)) (defScope (top 61)) .none kVf_bare_spans dcf_bare_spans pmf_bare_spans anf_bare_spans cdf_bare_spans ctf_bare_spans), slf_bare_spans⟩)
    (cf_bare_spans : PySem.W.codeIn K cdf_bare_spans "bare_spans" = true)
    (kf_bare_spans : PySem.W.keepIn K (.ref xf_bare_spans) = true)
    (af_most_hits : PySem.W.nsIn K mainGlobals "most_hits" = some (some (.ref xf_most_hits)))
    (lf_most_hits : K.lookup xf_most_hits = some ⟨ocf_most_hits, odf_most_hits, .func (PySem.W.fnOf "most_hits" "most_hits" (defArgs (top 62)) (defBody (top 62)) (defScope (top 62)) .none kVf_most_hits dcf_most_hits pmf_most_hits anf_most_hits cdf_most_hits ctf_most_hits), slf_most_hits⟩)
    (cf_most_hits : PySem.W.codeIn K cdf_most_hits "most_hits" = true)
    (kf_most_hits : PySem.W.keepIn K (.ref xf_most_hits) = true)
    (af_is_course_paper : PySem.W.nsIn K mainGlobals "is_course_paper" = some (some (.ref xf_is_course_paper)))
    (lf_is_course_paper : K.lookup xf_is_course_paper = some ⟨ocf_is_course_paper, odf_is_course_paper, .func (PySem.W.fnOf "is_course_paper" "is_course_paper" (defArgs (top 63)) (defBody (top 63)) (defScope (top 63)) .none kVf_is_course_paper dcf_is_course_paper pmf_is_course_paper anf_is_course_paper cdf_is_course_paper ctf_is_course_paper), slf_is_course_paper⟩)
    (cf_is_course_paper : PySem.W.codeIn K cdf_is_course_paper "is_course_paper" = true)
    (kf_is_course_paper : PySem.W.keepIn K (.ref xf_is_course_paper) = true)
    (af_is_judged : PySem.W.nsIn K mainGlobals "is_judged" = some (some (.ref xf_is_judged)))
    (lf_is_judged : K.lookup xf_is_judged = some ⟨ocf_is_judged, odf_is_judged, .func (PySem.W.fnOf "is_judged" "is_judged" (defArgs (top 65)) (defBody (top 65)) (defScope (top 65)) .none kVf_is_judged dcf_is_judged pmf_is_judged anf_is_judged cdf_is_judged ctf_is_judged), slf_is_judged⟩)
    (cf_is_judged : PySem.W.codeIn K cdf_is_judged "is_judged" = true)
    (kf_is_judged : PySem.W.keepIn K (.ref xf_is_judged) = true)
    (af_is_framed : PySem.W.nsIn K mainGlobals "is_framed" = some (some (.ref xf_is_framed)))
    (lf_is_framed : K.lookup xf_is_framed = some ⟨ocf_is_framed, odf_is_framed, .func (PySem.W.fnOf "is_framed" "is_framed" (defArgs (top 66)) (defBody (top 66)) (defScope (top 66)) .none kVf_is_framed dcf_is_framed pmf_is_framed anf_is_framed cdf_is_framed ctf_is_framed), slf_is_framed⟩)
    (cf_is_framed : PySem.W.codeIn K cdf_is_framed "is_framed" = true)
    (kf_is_framed : PySem.W.keepIn K (.ref xf_is_framed) = true)
    (af_is_told_reads : PySem.W.nsIn K mainGlobals "is_told_reads" = some (some (.ref xf_is_told_reads)))
    (lf_is_told_reads : K.lookup xf_is_told_reads = some ⟨ocf_is_told_reads, odf_is_told_reads, .func (PySem.W.fnOf "is_told_reads" "is_told_reads" (defArgs (top 67)) (defBody (top 67)) (defScope (top 67)) .none kVf_is_told_reads dcf_is_told_reads pmf_is_told_reads anf_is_told_reads cdf_is_told_reads ctf_is_told_reads), slf_is_told_reads⟩)
    (cf_is_told_reads : PySem.W.codeIn K cdf_is_told_reads "is_told_reads" = true)
    (kf_is_told_reads : PySem.W.keepIn K (.ref xf_is_told_reads) = true)
    (af_has_word : PySem.W.nsIn K mainGlobals "has_word" = some (some (.ref xf_has_word)))
    (lf_has_word : K.lookup xf_has_word = some ⟨ocf_has_word, odf_has_word, .func (PySem.W.fnOf "has_word" "has_word" (defArgs (top 70)) (defBody (top 70)) (defScope (top 70)) .none kVf_has_word dcf_has_word pmf_has_word anf_has_word cdf_has_word ctf_has_word), slf_has_word⟩)
    (cf_has_word : PySem.W.codeIn K cdf_has_word "has_word" = true)
    (kf_has_word : PySem.W.keepIn K (.ref xf_has_word) = true)
    (af_is_claim : PySem.W.nsIn K mainGlobals "is_claim" = some (some (.ref xf_is_claim)))
    (lf_is_claim : K.lookup xf_is_claim = some ⟨ocf_is_claim, odf_is_claim, .func (PySem.W.fnOf "is_claim" "is_claim" (defArgs (top 71)) (defBody (top 71)) (defScope (top 71)) .none kVf_is_claim dcf_is_claim pmf_is_claim anf_is_claim cdf_is_claim ctf_is_claim), slf_is_claim⟩)
    (cf_is_claim : PySem.W.codeIn K cdf_is_claim "is_claim" = true)
    (kf_is_claim : PySem.W.keepIn K (.ref xf_is_claim) = true)
    (af_is_question : PySem.W.nsIn K mainGlobals "is_question" = some (some (.ref xf_is_question)))
    (lf_is_question : K.lookup xf_is_question = some ⟨ocf_is_question, odf_is_question, .func (PySem.W.fnOf "is_question" "is_question" (defArgs (top 72)) (defBody (top 72)) (defScope (top 72)) .none kVf_is_question dcf_is_question pmf_is_question anf_is_question cdf_is_question ctf_is_question), slf_is_question⟩)
    (cf_is_question : PySem.W.codeIn K cdf_is_question "is_question" = true)
    (kf_is_question : PySem.W.keepIn K (.ref xf_is_question) = true)
    (af_reads_with : PySem.W.nsIn K mainGlobals "reads_with" = some (some (.ref xf_reads_with)))
    (lf_reads_with : K.lookup xf_reads_with = some ⟨ocf_reads_with, odf_reads_with, .func (PySem.W.fnOf "reads_with" "reads_with" (defArgs (top 74)) (defBody (top 74)) (defScope (top 74)) .none kVf_reads_with dcf_reads_with pmf_reads_with anf_reads_with cdf_reads_with ctf_reads_with), slf_reads_with⟩)
    (cf_reads_with : PySem.W.codeIn K cdf_reads_with "reads_with" = true)
    (kf_reads_with : PySem.W.keepIn K (.ref xf_reads_with) = true)
    (af_are_pages_out : PySem.W.nsIn K mainGlobals "are_pages_out" = some (some (.ref xf_are_pages_out)))
    (lf_are_pages_out : K.lookup xf_are_pages_out = some ⟨ocf_are_pages_out, odf_are_pages_out, .func (PySem.W.fnOf "are_pages_out" "are_pages_out" (defArgs (top 75)) (defBody (top 75)) (defScope (top 75)) .none kVf_are_pages_out dcf_are_pages_out pmf_are_pages_out anf_are_pages_out cdf_are_pages_out ctf_are_pages_out), slf_are_pages_out⟩)
    (cf_are_pages_out : PySem.W.codeIn K cdf_are_pages_out "are_pages_out" = true)
    (kf_are_pages_out : PySem.W.keepIn K (.ref xf_are_pages_out) = true)
    (af_proves_reads : PySem.W.nsIn K mainGlobals "proves_reads" = some (some (.ref xf_proves_reads)))
    (lf_proves_reads : K.lookup xf_proves_reads = some ⟨ocf_proves_reads, odf_proves_reads, .func (PySem.W.fnOf "proves_reads" "proves_reads" (defArgs (top 76)) (defBody (top 76)) (defScope (top 76)) .none kVf_proves_reads dcf_proves_reads pmf_proves_reads anf_proves_reads cdf_proves_reads ctf_proves_reads), slf_proves_reads⟩)
    (cf_proves_reads : PySem.W.codeIn K cdf_proves_reads "proves_reads" = true)
    (kf_proves_reads : PySem.W.keepIn K (.ref xf_proves_reads) = true)
    (af_proves : PySem.W.nsIn K mainGlobals "proves" = some (some (.ref xf_proves)))
    (lf_proves : K.lookup xf_proves = some ⟨ocf_proves, odf_proves, .func (PySem.W.fnOf "proves" "proves" (defArgs (top 77)) (defBody (top 77)) (defScope (top 77)) .none kVf_proves dcf_proves pmf_proves anf_proves cdf_proves ctf_proves), slf_proves⟩)
    (cf_proves : PySem.W.codeIn K cdf_proves "proves" = true)
    (kf_proves : PySem.W.keepIn K (.ref xf_proves) = true)
    (af__law_box : PySem.W.nsIn K mainGlobals "_law_box" = some (some (.ref xf__law_box)))
    (lf__law_box : K.lookup xf__law_box = some ⟨ocf__law_box, odf__law_box, .func (PySem.W.fnOf "_law_box" "_law_box" (defArgs (top 79)) (defBody (top 79)) (defScope (top 79)) .none kVf__law_box dcf__law_box pmf__law_box anf__law_box cdf__law_box ctf__law_box), slf__law_box⟩)
    (cf__law_box : PySem.W.codeIn K cdf__law_box "_law_box" = true)
    (kf__law_box : PySem.W.keepIn K (.ref xf__law_box) = true)
    (af__law_load : PySem.W.nsIn K mainGlobals "_law_load" = some (some (.ref xf__law_load)))
    (lf__law_load : K.lookup xf__law_load = some ⟨ocf__law_load, odf__law_load, .func (PySem.W.fnOf "_law_load" "_law_load" (defArgs (top 80)) (defBody (top 80)) (defScope (top 80)) .none kVf__law_load dcf__law_load pmf__law_load anf__law_load cdf__law_load ctf__law_load), slf__law_load⟩)
    (cf__law_load : PySem.W.codeIn K cdf__law_load "_law_load" = true)
    (kf__law_load : PySem.W.keepIn K (.ref xf__law_load) = true)
    (af__law_draw : PySem.W.nsIn K mainGlobals "_law_draw" = some (some (.ref xf__law_draw)))
    (lf__law_draw : K.lookup xf__law_draw = some ⟨ocf__law_draw, odf__law_draw, .func (PySem.W.fnOf "_law_draw" "_law_draw" (defArgs (top 81)) (defBody (top 81)) (defScope (top 81)) .none kVf__law_draw dcf__law_draw pmf__law_draw anf__law_draw cdf__law_draw ctf__law_draw), slf__law_draw⟩)
    (cf__law_draw : PySem.W.codeIn K cdf__law_draw "_law_draw" = true)
    (kf__law_draw : PySem.W.keepIn K (.ref xf__law_draw) = true)
    (af__law_same : PySem.W.nsIn K mainGlobals "_law_same" = some (some (.ref xf__law_same)))
    (lf__law_same : K.lookup xf__law_same = some ⟨ocf__law_same, odf__law_same, .func (PySem.W.fnOf "_law_same" "_law_same" (defArgs (top 82)) (defBody (top 82)) (defScope (top 82)) .none kVf__law_same dcf__law_same pmf__law_same anf__law_same cdf__law_same ctf__law_same), slf__law_same⟩)
    (cf__law_same : PySem.W.codeIn K cdf__law_same "_law_same" = true)
    (kf__law_same : PySem.W.keepIn K (.ref xf__law_same) = true)
    (af__law_history : PySem.W.nsIn K mainGlobals "_law_history" = some (some (.ref xf__law_history)))
    (lf__law_history : K.lookup xf__law_history = some ⟨ocf__law_history, odf__law_history, .func (PySem.W.fnOf "_law_history" "_law_history" (defArgs (top 83)) (defBody (top 83)) (defScope (top 83)) .none kVf__law_history dcf__law_history pmf__law_history anf__law_history cdf__law_history ctf__law_history), slf__law_history⟩)
    (cf__law_history : PySem.W.codeIn K cdf__law_history "_law_history" = true)
    (kf__law_history : PySem.W.keepIn K (.ref xf__law_history) = true)
    (af__law_odd : PySem.W.nsIn K mainGlobals "_law_odd" = some (some (.ref xf__law_odd)))
    (lf__law_odd : K.lookup xf__law_odd = some ⟨ocf__law_odd, odf__law_odd, .func (PySem.W.fnOf "_law_odd" "_law_odd" (defArgs (top 84)) (defBody (top 84)) (defScope (top 84)) .none kVf__law_odd dcf__law_odd pmf__law_odd anf__law_odd cdf__law_odd ctf__law_odd), slf__law_odd⟩)
    (cf__law_odd : PySem.W.codeIn K cdf__law_odd "_law_odd" = true)
    (kf__law_odd : PySem.W.keepIn K (.ref xf__law_odd) = true)
    (af__law_kinds : PySem.W.nsIn K mainGlobals "_law_kinds" = some (some (.ref xf__law_kinds)))
    (lf__law_kinds : K.lookup xf__law_kinds = some ⟨ocf__law_kinds, odf__law_kinds, .func (PySem.W.fnOf "_law_kinds" "_law_kinds" (defArgs (top 85)) (defBody (top 85)) (defScope (top 85)) .none kVf__law_kinds dcf__law_kinds pmf__law_kinds anf__law_kinds cdf__law_kinds ctf__law_kinds), slf__law_kinds⟩)
    (cf__law_kinds : PySem.W.codeIn K cdf__law_kinds "_law_kinds" = true)
    (kf__law_kinds : PySem.W.keepIn K (.ref xf__law_kinds) = true)
    (af__law_good : PySem.W.nsIn K mainGlobals "_law_good" = some (some (.ref xf__law_good)))
    (lf__law_good : K.lookup xf__law_good = some ⟨ocf__law_good, odf__law_good, .func (PySem.W.fnOf "_law_good" "_law_good" (defArgs (top 86)) (defBody (top 86)) (defScope (top 86)) .none kVf__law_good dcf__law_good pmf__law_good anf__law_good cdf__law_good ctf__law_good), slf__law_good⟩)
    (cf__law_good : PySem.W.codeIn K cdf__law_good "_law_good" = true)
    (kf__law_good : PySem.W.keepIn K (.ref xf__law_good) = true)
    (af__law_bad : PySem.W.nsIn K mainGlobals "_law_bad" = some (some (.ref xf__law_bad)))
    (lf__law_bad : K.lookup xf__law_bad = some ⟨ocf__law_bad, odf__law_bad, .func (PySem.W.fnOf "_law_bad" "_law_bad" (defArgs (top 87)) (defBody (top 87)) (defScope (top 87)) .none kVf__law_bad dcf__law_bad pmf__law_bad anf__law_bad cdf__law_bad ctf__law_bad), slf__law_bad⟩)
    (cf__law_bad : PySem.W.codeIn K cdf__law_bad "_law_bad" = true)
    (kf__law_bad : PySem.W.keepIn K (.ref xf__law_bad) = true)
    (af__law_rows : PySem.W.nsIn K mainGlobals "_law_rows" = some (some (.ref xf__law_rows)))
    (lf__law_rows : K.lookup xf__law_rows = some ⟨ocf__law_rows, odf__law_rows, .func (PySem.W.fnOf "_law_rows" "_law_rows" (defArgs (top 88)) (defBody (top 88)) (defScope (top 88)) .none kVf__law_rows dcf__law_rows pmf__law_rows anf__law_rows cdf__law_rows ctf__law_rows), slf__law_rows⟩)
    (cf__law_rows : PySem.W.codeIn K cdf__law_rows "_law_rows" = true)
    (kf__law_rows : PySem.W.keepIn K (.ref xf__law_rows) = true)
    (af_law : PySem.W.nsIn K mainGlobals "law" = some (some (.ref xf_law)))
    (lf_law : K.lookup xf_law = some ⟨ocf_law, odf_law, .func (PySem.W.fnOf "law" "law" (defArgs (top 89)) (defBody (top 89)) (defScope (top 89)) .none kVf_law dcf_law pmf_law anf_law cdf_law ctf_law), slf_law⟩)
    (cf_law : PySem.W.codeIn K cdf_law "law" = true)
    (kf_law : PySem.W.keepIn K (.ref xf_law) = true)
    (aCP : PySem.W.nsIn K mainGlobals "PlainTransaction" = some (some (.ref CP)))
    (ap_init : PySem.W.findIn K (.ref CP) "__init__" = some (some (.ref xp_init)))
    (ip_init : PySem.W.isFn K (.ref xp_init) = true)
    (lp_init : K.lookup xp_init = some ⟨ocp_init, odp_init, .func (PySem.W.fnOf "__init__" "PlainTransaction.__init__" (defArgs sInit) (defBody sInit) (defScope sInit) .none kVp_init dcp_init pmp_init anp_init cdp_init ctp_init), slp_init⟩)
    (cp_init : PySem.W.codeIn K cdp_init "PlainTransaction.__init__" = true)
    (kp_init : PySem.W.keepIn K (.ref xp_init) = true)
    (ap_rows : PySem.W.findIn K (.ref CP) "rows" = some (some (.ref xp_rows)))
    (ip_rows : PySem.W.isFn K (.ref xp_rows) = true)
    (lp_rows : K.lookup xp_rows = some ⟨ocp_rows, odp_rows, .func (PySem.W.fnOf "rows" "PlainTransaction.rows" (defArgs sRows) (defBody sRows) (defScope sRows) .none kVp_rows dcp_rows pmp_rows anp_rows cdp_rows ctp_rows), slp_rows⟩)
    (cp_rows : PySem.W.codeIn K cdp_rows "PlainTransaction.rows" = true)
    (kp_rows : PySem.W.keepIn K (.ref xp_rows) = true)
    (ap_answer : PySem.W.findIn K (.ref CP) "answer" = some (some (.ref xp_answer)))
    (ip_answer : PySem.W.isFn K (.ref xp_answer) = true)
    (lp_answer : K.lookup xp_answer = some ⟨ocp_answer, odp_answer, .func (PySem.W.fnOf "answer" "PlainTransaction.answer" (defArgs sAns) (defBody sAns) (defScope sAns) .none kVp_answer dcp_answer pmp_answer anp_answer cdp_answer ctp_answer), slp_answer⟩)
    (cp_answer : PySem.W.codeIn K cdp_answer "PlainTransaction.answer" = true)
    (kp_answer : PySem.W.keepIn K (.ref xp_answer) = true)
    (pgC : PySem.W.plainGet K CP Str.empty = true)
    (hdC : PySem.W.hasDictIn K CP = true)
    (poC : PySem.W.plainOver K CP = true)
    (saC : PySem.W.findIn K (.ref CP) "__setattr__" = some (some (.builtin "object.__setattr__")))
    (mkC : PySem.W.makesIn K CP = true)
    (kcC : PySem.W.keepIn K (.ref CP) = true)
    (nRC : PySem.W.findIn K (.ref CP) "_rows" = some none)
    (nSC : PySem.W.findIn K (.ref CP) "_saved" = some none)
    (gFORMS : PySem.W.nsIn K mainGlobals "FORMS" = some (some (.ref dFORMS)))
    (lFORMS : K.lookup dFORMS = some ⟨.type "dict", none, .dict esFORMS nFORMS, #[]⟩)
    (kFORMS : PySem.W.KeysLit w.params esFORMS.toList)
    (sFORMS : (dFORMS == sysModules) = false)
    (wFORMS0 : PySem.W.nsIn K dFORMS "explained" = some (some (.ref xf_is_judged)))
    (wFORMS1 : PySem.W.nsIn K dFORMS "unexplained" = some (some (.ref xf_is_judged)))
    (wFORMS2 : PySem.W.nsIn K dFORMS "never fewer" = some (some (.ref xf_is_told_reads)))
    (wFORMS3 : PySem.W.nsIn K dFORMS "can be read" = some (some (.ref xf_is_told_reads)))
    (zFORMS0 : PySem.W.nsIn K dFORMS "explainedz" = some none)
    (zFORMS1 : PySem.W.nsIn K dFORMS "unexplainedz" = some none)
    (zFORMS2 : PySem.W.nsIn K dFORMS "never fewerz" = some none)
    (zFORMS3 : PySem.W.nsIn K dFORMS "can be readz" = some none)
    (gASKED : PySem.W.nsIn K mainGlobals "ASKED" = some (some (.ref dASKED)))
    (lASKED : K.lookup dASKED = some ⟨.type "dict", none, .dict esASKED nASKED, #[]⟩)
    (kASKED : PySem.W.KeysLit w.params esASKED.toList)
    (sASKED : (dASKED == sysModules) = false)
    (wASKED0 : PySem.W.nsIn K dASKED "explain" = some (some (.ref xf_is_judged)))
    (wASKED1 : PySem.W.nsIn K dASKED "fewest" = some (some (.ref xf_is_framed)))
    (wASKED2 : PySem.W.nsIn K dASKED "read" = some (some (.ref xf_is_framed)))
    (zASKED0 : PySem.W.nsIn K dASKED "explainz" = some none)
    (zASKED1 : PySem.W.nsIn K dASKED "fewestz" = some none)
    (zASKED2 : PySem.W.nsIn K dASKED "readz" = some none)
    (ev : allT (b_law xf_is_claim xf_is_question (SJ xf_is_claim xf_is_question) E0) = true) :
    ∃ fd : FuncData, (∀ (s : Shared) (v : Value), BindsTo s fd ⟨[v], []⟩ [("script", v)]) ∧ ∀ base : Heap, K.In base → base.Ns mainGlobals mg → FnOk l.prog w K mg base CX0 10 fz fd ["script"] (spLaw K) := by
  have e := hfa.symm.trans (PySem.W.mg_of X G af_law)
  cases e
  have GG : Gs K mg := ⟨⟨.str _, .str _ t_SIGNS, PySem.W.mg_of X G c_SIGNS, ⟨t_SIGNS, rfl⟩, fun _ => .str _⟩,
    ⟨.ref a_DEGREES, .ref a_DEGREES, PySem.W.mg_of X G c_DEGREES, rfl, fun _ => .tup (.inr ⟨_, _, _, l_c_DEGREES, rfl, rfl, by show 2 ≤ sizeLine; decide, show Vals [V.str "serial", V.str "snapshot"] _ from .cons ⟨_, rfl⟩ (.cons ⟨_, rfl⟩ .nil)⟩) (.cons (.str _) (.cons (.str _) .nil))⟩,
    ⟨.ref a_KINDS, .ref a_KINDS, PySem.W.mg_of X G c_KINDS, rfl, fun _ => .tup (.inr ⟨_, _, _, l_c_KINDS, rfl, rfl, by show 2 ≤ sizeLine; decide, show Vals [V.str "done", V.str "undone"] _ from .cons ⟨_, rfl⟩ (.cons ⟨_, rfl⟩ .nil)⟩) (.cons (.str _) (.cons (.str _) .nil))⟩,
    ⟨.int 12, .int 12 t_MOST_KEY, PySem.W.mg_of X G c_MOST_KEY, ⟨t_MOST_KEY, rfl⟩, fun _ => .int _⟩,
    ⟨.int 200, .int 200 t_MOST_VALUE, PySem.W.mg_of X G c_MOST_VALUE, ⟨t_MOST_VALUE, rfl⟩, fun _ => .int _⟩,
    ⟨.int 200, .int 200 t_MOST_MANY, PySem.W.mg_of X G c_MOST_MANY, ⟨t_MOST_MANY, rfl⟩, fun _ => .int _⟩,
    ⟨.int 1000, .int 1000 t_MOST_FRAMES, PySem.W.mg_of X G c_MOST_FRAMES, ⟨t_MOST_FRAMES, rfl⟩, fun _ => .int _⟩,
    ⟨.int 7, .int 7 t_MOST_JUDGED, PySem.W.mg_of X G c_MOST_JUDGED, ⟨t_MOST_JUDGED, rfl⟩, fun _ => .int _⟩,
    ⟨.int 1000000000, .int 1000000000 t_GREATEST_TIME, PySem.W.mg_of X G c_GREATEST_TIME, ⟨t_GREATEST_TIME, rfl⟩, fun _ => .int _⟩,
    ⟨.int 120, .int 120 t_MOST_COURSE, PySem.W.mg_of X G c_MOST_COURSE, ⟨t_MOST_COURSE, rfl⟩, fun _ => .int _⟩,
    ⟨.int 1000000000, .int 1000000000 t_GREATEST_PAGE_NUMBER, PySem.W.mg_of X G c_GREATEST_PAGE_NUMBER, ⟨t_GREATEST_PAGE_NUMBER, rfl⟩, fun _ => .int _⟩,
    PySem.W.mg_none_of X G b_len,
    PySem.W.mg_none_of X G b_isinstance,
    PySem.W.mg_none_of X G b_int,
    PySem.W.mg_none_of X G b_bool,
    PySem.W.mg_none_of X G b_str,
    PySem.W.mg_none_of X G b_tuple,
    PySem.W.mg_none_of X G b_list,
    PySem.W.mg_none_of X G b_all,
    PySem.W.mg_none_of X G b_any,
    PySem.W.mg_none_of X G b_sum,
    PySem.W.mg_none_of X G b_range,
    PySem.W.mg_none_of X G b_zip,
    PySem.W.mg_none_of X G b_enumerate,
    PySem.W.mg_none_of X G b_set,
    PySem.W.mg_none_of X G b_sorted,
    ⟨_, _, fun_mk (st := top 5) lf_is_whole cf_is_whole kf_is_whole, PySem.W.mg_of X G af_is_whole⟩,
    ⟨_, _, fun_mk (st := top 6) lf_is_number cf_is_number kf_is_number, PySem.W.mg_of X G af_is_number⟩,
    ⟨_, _, fun_mk (st := top 7) lf_is_ascending cf_is_ascending kf_is_ascending, PySem.W.mg_of X G af_is_ascending⟩,
    ⟨_, _, fun_mk (st := top 13) lf_are_signs cf_are_signs kf_are_signs, PySem.W.mg_of X G af_are_signs⟩,
    ⟨_, _, fun_mk (st := top 14) lf_is_key cf_is_key kf_is_key, PySem.W.mg_of X G af_is_key⟩,
    ⟨_, _, fun_mk (st := top 15) lf_is_stored cf_is_stored kf_is_stored, PySem.W.mg_of X G af_is_stored⟩,
    ⟨_, _, fun_mk (st := top 25) lf_is_read cf_is_read kf_is_read, PySem.W.mg_of X G af_is_read⟩,
    ⟨_, _, fun_mk (st := top 26) lf_is_write cf_is_write kf_is_write, PySem.W.mg_of X G af_is_write⟩,
    ⟨_, _, fun_mk (st := top 28) lf_keys_changed cf_keys_changed kf_keys_changed, PySem.W.mg_of X G af_keys_changed⟩,
    ⟨_, _, fun_mk (st := top 30) lf_value_in cf_value_in kf_value_in, PySem.W.mg_of X G af_value_in⟩,
    ⟨_, _, fun_mk (st := top 31) lf_with_value cf_with_value kf_with_value, PySem.W.mg_of X G af_with_value⟩,
    ⟨_, _, fun_mk (st := top 34) lf_read_answer cf_read_answer kf_read_answer, PySem.W.mg_of X G af_read_answer⟩,
    ⟨_, _, fun_mk (st := top 36) lf_plain_answers cf_plain_answers kf_plain_answers, PySem.W.mg_of X G af_plain_answers⟩,
    ⟨_, _, fun_mk (st := top 37) lf_same_answers cf_same_answers kf_same_answers, PySem.W.mg_of X G af_same_answers⟩,
    ⟨_, _, fun_mk (st := top 43) lf_is_told_answer cf_is_told_answer kf_is_told_answer, PySem.W.mg_of X G af_is_told_answer⟩,
    ⟨_, _, fun_mk (st := top 44) lf_are_inner cf_are_inner kf_are_inner, PySem.W.mg_of X G af_are_inner⟩,
    ⟨_, _, fun_mk (st := top 45) lf_is_history_row cf_is_history_row kf_is_history_row, PySem.W.mg_of X G af_is_history_row⟩,
    ⟨_, _, fun_mk (st := top 46) lf_is_history cf_is_history kf_is_history, PySem.W.mg_of X G af_is_history⟩,
    ⟨_, _, fun_mk (st := top 47) lf_rows_by_order cf_rows_by_order kf_rows_by_order, PySem.W.mg_of X G af_rows_by_order⟩,
    ⟨_, _, fun_mk (st := top 48) lf_fits_serial cf_fits_serial kf_fits_serial, PySem.W.mg_of X G af_fits_serial⟩,
    ⟨_, _, fun_mk (st := top 51) lf_can_follow cf_can_follow kf_can_follow, PySem.W.mg_of X G af_can_follow⟩,
    ⟨_, _, fun_mk (st := top 52) lf_followers cf_followers kf_followers, PySem.W.mg_of X G af_followers⟩,
    ⟨_, _, fun_mk (st := top 53) lf_is_some_order cf_is_some_order kf_is_some_order, PySem.W.mg_of X G af_is_some_order⟩,
    ⟨_, _, fun_mk (st := top 54) lf_is_explaining cf_is_explaining kf_is_explaining, PySem.W.mg_of X G af_is_explaining⟩,
    ⟨_, _, fun_mk (st := top 55) lf_is_history_paper cf_is_history_paper kf_is_history_paper, PySem.W.mg_of X G af_is_history_paper⟩,
    ⟨_, _, fun_mk (st := top 59) lf_is_course cf_is_course kf_is_course, PySem.W.mg_of X G af_is_course⟩,
    ⟨_, _, fun_mk (st := top 60) lf_spans_of cf_spans_of kf_spans_of, PySem.W.mg_of X G af_spans_of⟩,
    ⟨_, _, fun_mk (st := top 61) lf_bare_spans cf_bare_spans kf_bare_spans, PySem.W.mg_of X G af_bare_spans⟩,
    ⟨_, _, fun_mk (st := top 62) lf_most_hits cf_most_hits kf_most_hits, PySem.W.mg_of X G af_most_hits⟩,
    ⟨_, _, fun_mk (st := top 63) lf_is_course_paper cf_is_course_paper kf_is_course_paper, PySem.W.mg_of X G af_is_course_paper⟩,
    ⟨_, _, fun_mk (st := top 65) lf_is_judged cf_is_judged kf_is_judged, PySem.W.mg_of X G af_is_judged⟩,
    ⟨_, _, fun_mk (st := top 66) lf_is_framed cf_is_framed kf_is_framed, PySem.W.mg_of X G af_is_framed⟩,
    ⟨_, _, fun_mk (st := top 67) lf_is_told_reads cf_is_told_reads kf_is_told_reads, PySem.W.mg_of X G af_is_told_reads⟩,
    ⟨_, _, fun_mk (st := top 70) lf_has_word cf_has_word kf_has_word, PySem.W.mg_of X G af_has_word⟩,
    ⟨_, _, fun_mk (st := top 71) lf_is_claim cf_is_claim kf_is_claim, PySem.W.mg_of X G af_is_claim⟩,
    ⟨_, _, fun_mk (st := top 72) lf_is_question cf_is_question kf_is_question, PySem.W.mg_of X G af_is_question⟩,
    ⟨_, _, fun_mk (st := top 74) lf_reads_with cf_reads_with kf_reads_with, PySem.W.mg_of X G af_reads_with⟩,
    ⟨_, _, fun_mk (st := top 75) lf_are_pages_out cf_are_pages_out kf_are_pages_out, PySem.W.mg_of X G af_are_pages_out⟩,
    ⟨_, _, fun_mk (st := top 76) lf_proves_reads cf_proves_reads kf_proves_reads, PySem.W.mg_of X G af_proves_reads⟩,
    ⟨_, _, fun_mk (st := top 77) lf_proves cf_proves kf_proves, PySem.W.mg_of X G af_proves⟩,
    ⟨_, _, fun_mk (st := top 79) lf__law_box cf__law_box kf__law_box, PySem.W.mg_of X G af__law_box⟩,
    ⟨_, _, fun_mk (st := top 80) lf__law_load cf__law_load kf__law_load, PySem.W.mg_of X G af__law_load⟩,
    ⟨_, _, fun_mk (st := top 81) lf__law_draw cf__law_draw kf__law_draw, PySem.W.mg_of X G af__law_draw⟩,
    ⟨_, _, fun_mk (st := top 82) lf__law_same cf__law_same kf__law_same, PySem.W.mg_of X G af__law_same⟩,
    ⟨_, _, fun_mk (st := top 83) lf__law_history cf__law_history kf__law_history, PySem.W.mg_of X G af__law_history⟩,
    ⟨_, _, fun_mk (st := top 84) lf__law_odd cf__law_odd kf__law_odd, PySem.W.mg_of X G af__law_odd⟩,
    ⟨_, _, fun_mk (st := top 85) lf__law_kinds cf__law_kinds kf__law_kinds, PySem.W.mg_of X G af__law_kinds⟩,
    ⟨_, _, fun_mk (st := top 86) lf__law_good cf__law_good kf__law_good, PySem.W.mg_of X G af__law_good⟩,
    ⟨_, _, fun_mk (st := top 87) lf__law_bad cf__law_bad kf__law_bad, PySem.W.mg_of X G af__law_bad⟩,
    ⟨_, _, fun_mk (st := top 88) lf__law_rows cf__law_rows kf__law_rows, PySem.W.mg_of X G af__law_rows⟩,
    ⟨_, _, fun_mk (st := top 89) lf_law cf_law kf_law, PySem.W.mg_of X G af_law⟩⟩
  have TT : Tabs K w mg := ⟨⟨dFORMS, esFORMS, nFORMS, PySem.W.mg_of X G gFORMS, ⟨lFORMS, kFORMS, sFORMS⟩, by rw [wFORMS0, PySem.W.mg_of X G af_is_judged], by rw [wFORMS1, PySem.W.mg_of X G af_is_judged], by rw [wFORMS2, PySem.W.mg_of X G af_is_told_reads], by rw [wFORMS3, PySem.W.mg_of X G af_is_told_reads], zFORMS0, zFORMS1, zFORMS2, zFORMS3⟩,
    ⟨dASKED, esASKED, nASKED, PySem.W.mg_of X G gASKED, ⟨lASKED, kASKED, sASKED⟩, by rw [wASKED0, PySem.W.mg_of X G af_is_judged], by rw [wASKED1, PySem.W.mg_of X G af_is_framed], by rw [wASKED2, PySem.W.mg_of X G af_is_framed], zASKED0, zASKED1, zASKED2⟩⟩
  have TC : ClsPT K mg CP xp_init xp_rows xp_answer := ⟨⟨pgC, hdC, poC, saC⟩, nRC, nSC, ⟨mkC, ap_init, ip_init, kcC⟩, PySem.W.mg_of X G aCP, ⟨ap_rows, ip_rows, kp_rows⟩, ⟨ap_answer, ip_answer, kp_answer⟩⟩
  have Fp_init := fun_mk (st := sInit) lp_init cp_init kp_init
  have Fp_rows := fun_mk (st := sRows) lp_rows cp_rows kp_rows
  have Fp_answer := fun_mk (st := sAns) lp_answer cp_answer kp_answer
  have FZ := fun_mk (st := s_law) lf_law cf_law kf_law
  exact ⟨_, fun s v => .of_eq rfl, fun base _ _ => law_mk GG TT TC Fp_init Fp_rows Fp_answer FZ (PySem.W.mg_of X G af_is_claim) (PySem.W.mg_of X G af_is_question) ev⟩
theorem walk {l : PySem.W.OpenLaw} {q : Program} {loose : List Str} {XP : (Str → Option Value) → Heap → Prop} {YP : World → Heap → Prop} {d : DefRec} {K : Params → PySem.W.Frag} (hn : l.most = some 63) (hdf : d.params.defaults = [])
    (hY : ∀ (w : World) (h : Heap), YP w h → (K w.params).In h)
    (F : ∀ (w : World) (mg : Str → Option Value) (fa : Addr) (h : Heap), (K w.params).In h → h.Ns mainGlobals mg → mg d.name = some (.ref fa) →
      ∃ fd : FuncData, (∀ (s : Shared) (u : Value), BindsTo s fd ⟨[u], []⟩ [("script", u)]) ∧ ∀ base : Heap, (K w.params).In base → base.Ns mainGlobals mg → FnOk l.prog w (K w.params) mg base CX0 10 fa fd ["script"] (spLaw (K w.params))) :
    PySem.W.WalkO q loose XP YP l.row.toRowW d [] (fun f vs => PySem.call f vs) :=
  L2.walk_of (n := 63) (k := 10) (x := "script") (CX := fun _ => CX0) (sp := fun w => spLaw (K w.params)) hn (by decide) hdf ⟨rfl, by decide, by decide⟩ hY F (fun _ _ a ns hl _ hS => ⟨a, ns, rfl, hS, hl, fun _ => rfl⟩) fun _ _ _ _ _ z => z
end K70
open PySem PySem.W PyProof.Rows
set_option maxRecDepth 100000 in
set_option maxHeartbeats 0 in
theorem PySem.Challenge.cw_treesheld_k70_whole_claims_holds : PySem.Challenge.rw_treesheld_k70_whole_claims.Holds := by
  w_on; o_law; k_head; (case hw => w_witness2)
  k_fill
  refine K70.walk (l := PySem.Challenge.rw_treesheld_k70_whole_claims) rfl rfl (fun w h Y => PySem.W.kIn_of Y) ?F
  case F =>
    intro w mg fa h KX G hmg
    refine' K70.all_mk KX G hmg ?c_SIGNS ?c_DEGREES ?l_c_DEGREES ?c_KINDS ?l_c_KINDS ?c_MOST_KEY ?c_MOST_VALUE ?c_MOST_MANY ?c_MOST_FRAMES ?c_MOST_JUDGED ?c_GREATEST_TIME ?c_MOST_COURSE ?c_GREATEST_PAGE_NUMBER ?b_len ?b_isinstance ?b_int ?b_bool ?b_str ?b_tuple ?b_list ?b_all ?b_any ?b_sum ?b_range ?b_zip ?b_enumerate ?b_set ?b_sorted ?af_is_whole ?lf_is_whole ?cf_is_whole ?kf_is_whole ?af_is_number ?lf_is_number ?cf_is_number ?kf_is_number ?af_is_ascending ?lf_is_ascending ?cf_is_ascending ?kf_is_ascending ?af_are_signs ?lf_are_signs ?cf_are_signs ?kf_are_signs ?af_is_key ?lf_is_key ?cf_is_key ?kf_is_key ?af_is_stored ?lf_is_stored ?cf_is_stored ?kf_is_stored ?af_is_read ?lf_is_read ?cf_is_read ?kf_is_read ?af_is_write ?lf_is_write ?cf_is_write ?kf_is_write ?af_keys_changed ?lf_keys_changed ?cf_keys_changed ?kf_keys_changed ?af_value_in ?lf_value_in ?cf_value_in ?kf_value_in ?af_with_value ?lf_with_value ?cf_with_value ?kf_with_value ?af_read_answer ?lf_read_answer ?cf_read_answer ?kf_read_answer ?af_plain_answers ?lf_plain_answers ?cf_plain_answers ?kf_plain_answers ?af_same_answers ?lf_same_answers ?cf_same_answers ?kf_same_answers ?af_is_told_answer ?lf_is_told_answer ?cf_is_told_answer ?kf_is_told_answer ?af_are_inner ?lf_are_inner ?cf_are_inner ?kf_are_inner ?af_is_history_row ?lf_is_history_row ?cf_is_history_row ?kf_is_history_row ?af_is_history ?lf_is_history ?cf_is_history ?kf_is_history ?af_rows_by_order ?lf_rows_by_order ?cf_rows_by_order ?kf_rows_by_order ?af_fits_serial ?lf_fits_serial ?cf_fits_serial ?kf_fits_serial ?af_can_follow ?lf_can_follow ?cf_can_follow ?kf_can_follow ?af_followers ?lf_followers ?cf_followers ?kf_followers ?af_is_some_order ?lf_is_some_order ?cf_is_some_order ?kf_is_some_order ?af_is_explaining ?lf_is_explaining ?cf_is_explaining ?kf_is_explaining ?af_is_history_paper ?lf_is_history_paper ?cf_is_history_paper ?kf_is_history_paper ?af_is_course ?lf_is_course ?cf_is_course ?kf_is_course ?af_spans_of ?lf_spans_of ?cf_spans_of ?kf_spans_of ?af_bare_spans ?lf_bare_spans ?cf_bare_spans ?kf_bare_spans ?af_most_hits ?lf_most_hits ?cf_most_hits ?kf_most_hits ?af_is_course_paper ?lf_is_course_paper ?cf_is_course_paper ?kf_is_course_paper ?af_is_judged ?lf_is_judged ?cf_is_judged ?kf_is_judged ?af_is_framed ?lf_is_framed ?cf_is_framed ?kf_is_framed ?af_is_told_reads ?lf_is_told_reads ?cf_is_told_reads ?kf_is_told_reads ?af_has_word ?lf_has_word ?cf_has_word ?kf_has_word ?af_is_claim ?lf_is_claim ?cf_is_claim ?kf_is_claim ?af_is_question ?lf_is_question ?cf_is_question ?kf_is_question ?af_reads_with ?lf_reads_with ?cf_reads_with ?kf_reads_with ?af_are_pages_out ?lf_are_pages_out ?cf_are_pages_out ?kf_are_pages_out ?af_proves_reads ?lf_proves_reads ?cf_proves_reads ?kf_proves_reads ?af_proves ?lf_proves ?cf_proves ?kf_proves ?af__law_box ?lf__law_box ?cf__law_box ?kf__law_box ?af__law_load ?lf__law_load ?cf__law_load ?kf__law_load ?af__law_draw ?lf__law_draw ?cf__law_draw ?kf__law_draw ?af__law_same ?lf__law_same ?cf__law_same ?kf__law_same ?af__law_history ?lf__law_history ?cf__law_history ?kf__law_history ?af__law_odd ?lf__law_odd ?cf__law_odd ?kf__law_odd ?af__law_kinds ?lf__law_kinds ?cf__law_kinds ?kf__law_kinds ?af__law_good ?lf__law_good ?cf__law_good ?kf__law_good ?af__law_bad ?lf__law_bad ?cf__law_bad ?kf__law_bad ?af__law_rows ?lf__law_rows ?cf__law_rows ?kf__law_rows ?af_law ?lf_law ?cf_law ?kf_law ?aCP ?ap_init ?ip_init ?lp_init ?cp_init ?kp_init ?ap_rows ?ip_rows ?lp_rows ?cp_rows ?kp_rows ?ap_answer ?ip_answer ?lp_answer ?cp_answer ?kp_answer ?pgC ?hdC ?poC ?saC ?mkC ?kcC ?nRC ?nSC ?gFORMS ?lFORMS ?kFORMS ?sFORMS ?wFORMS0 ?wFORMS1 ?wFORMS2 ?wFORMS3 ?zFORMS0 ?zFORMS1 ?zFORMS2 ?zFORMS3 ?gASKED ?lASKED ?kASKED ?sASKED ?wASKED0 ?wASKED1 ?wASKED2 ?zASKED0 ?zASKED1 ?zASKED2 ?ev
    (case c_SIGNS => k_is)
    (case c_DEGREES => k_is)
    (case l_c_DEGREES => k_is)
    (case c_KINDS => k_is)
    (case l_c_KINDS => k_is)
    (case c_MOST_KEY => k_is)
    (case c_MOST_VALUE => k_is)
    (case c_MOST_MANY => k_is)
    (case c_MOST_FRAMES => k_is)
    (case c_MOST_JUDGED => k_is)
    (case c_GREATEST_TIME => k_is)
    (case c_MOST_COURSE => k_is)
    (case c_GREATEST_PAGE_NUMBER => k_is)
    (case b_len => k_is)
    (case b_isinstance => k_is)
    (case b_int => k_is)
    (case b_bool => k_is)
    (case b_str => k_is)
    (case b_tuple => k_is)
    (case b_list => k_is)
    (case b_all => k_is)
    (case b_any => k_is)
    (case b_sum => k_is)
    (case b_range => k_is)
    (case b_zip => k_is)
    (case b_enumerate => k_is)
    (case b_set => k_is)
    (case b_sorted => k_is)
    (case af_is_whole => k_is)
    (case lf_is_whole => k_is)
    (case cf_is_whole => k_is)
    (case kf_is_whole => k_is)
    (case af_is_number => k_is)
    (case lf_is_number => k_is)
    (case cf_is_number => k_is)
    (case kf_is_number => k_is)
    (case af_is_ascending => k_is)
    (case lf_is_ascending => k_is)
    (case cf_is_ascending => k_is)
    (case kf_is_ascending => k_is)
    (case af_are_signs => k_is)
    (case lf_are_signs => k_is)
    (case cf_are_signs => k_is)
    (case kf_are_signs => k_is)
    (case af_is_key => k_is)
    (case lf_is_key => k_is)
    (case cf_is_key => k_is)
    (case kf_is_key => k_is)
    (case af_is_stored => k_is)
    (case lf_is_stored => k_is)
    (case cf_is_stored => k_is)
    (case kf_is_stored => k_is)
    (case af_is_read => k_is)
    (case lf_is_read => k_is)
    (case cf_is_read => k_is)
    (case kf_is_read => k_is)
    (case af_is_write => k_is)
    (case lf_is_write => k_is)
    (case cf_is_write => k_is)
    (case kf_is_write => k_is)
    (case af_keys_changed => k_is)
    (case lf_keys_changed => k_is)
    (case cf_keys_changed => k_is)
    (case kf_keys_changed => k_is)
    (case af_value_in => k_is)
    (case lf_value_in => k_is)
    (case cf_value_in => k_is)
    (case kf_value_in => k_is)
    (case af_with_value => k_is)
    (case lf_with_value => k_is)
    (case cf_with_value => k_is)
    (case kf_with_value => k_is)
    (case af_read_answer => k_is)
    (case lf_read_answer => k_is)
    (case cf_read_answer => k_is)
    (case kf_read_answer => k_is)
    (case af_plain_answers => k_is)
    (case lf_plain_answers => k_is)
    (case cf_plain_answers => k_is)
    (case kf_plain_answers => k_is)
    (case af_same_answers => k_is)
    (case lf_same_answers => k_is)
    (case cf_same_answers => k_is)
    (case kf_same_answers => k_is)
    (case af_is_told_answer => k_is)
    (case lf_is_told_answer => k_is)
    (case cf_is_told_answer => k_is)
    (case kf_is_told_answer => k_is)
    (case af_are_inner => k_is)
    (case lf_are_inner => k_is)
    (case cf_are_inner => k_is)
    (case kf_are_inner => k_is)
    (case af_is_history_row => k_is)
    (case lf_is_history_row => k_is)
    (case cf_is_history_row => k_is)
    (case kf_is_history_row => k_is)
    (case af_is_history => k_is)
    (case lf_is_history => k_is)
    (case cf_is_history => k_is)
    (case kf_is_history => k_is)
    (case af_rows_by_order => k_is)
    (case lf_rows_by_order => k_is)
    (case cf_rows_by_order => k_is)
    (case kf_rows_by_order => k_is)
    (case af_fits_serial => k_is)
    (case lf_fits_serial => k_is)
    (case cf_fits_serial => k_is)
    (case kf_fits_serial => k_is)
    (case af_can_follow => k_is)
    (case lf_can_follow => k_is)
    (case cf_can_follow => k_is)
    (case kf_can_follow => k_is)
    (case af_followers => k_is)
    (case lf_followers => k_is)
    (case cf_followers => k_is)
    (case kf_followers => k_is)
    (case af_is_some_order => k_is)
    (case lf_is_some_order => k_is)
    (case cf_is_some_order => k_is)
    (case kf_is_some_order => k_is)
    (case af_is_explaining => k_is)
    (case lf_is_explaining => k_is)
    (case cf_is_explaining => k_is)
    (case kf_is_explaining => k_is)
    (case af_is_history_paper => k_is)
    (case lf_is_history_paper => k_is)
    (case cf_is_history_paper => k_is)
    (case kf_is_history_paper => k_is)
    (case af_is_course => k_is)
    (case lf_is_course => k_is)
    (case cf_is_course => k_is)
    (case kf_is_course => k_is)
    (case af_spans_of => k_is)
    (case lf_spans_of => k_is)
    (case cf_spans_of => k_is)
    (case kf_spans_of => k_is)
    (case af_bare_spans => k_is)
    (case lf_bare_spans => k_is)
    (case cf_bare_spans => k_is)
    (case kf_bare_spans => k_is)
    (case af_most_hits => k_is)
    (case lf_most_hits => k_is)
    (case cf_most_hits => k_is)
    (case kf_most_hits => k_is)
    (case af_is_course_paper => k_is)
    (case lf_is_course_paper => k_is)
    (case cf_is_course_paper => k_is)
    (case kf_is_course_paper => k_is)
    (case af_is_judged => k_is)
    (case lf_is_judged => k_is)
    (case cf_is_judged => k_is)
    (case kf_is_judged => k_is)
    (case af_is_framed => k_is)
    (case lf_is_framed => k_is)
    (case cf_is_framed => k_is)
    (case kf_is_framed => k_is)
    (case af_is_told_reads => k_is)
    (case lf_is_told_reads => k_is)
    (case cf_is_told_reads => k_is)
    (case kf_is_told_reads => k_is)
    (case af_has_word => k_is)
    (case lf_has_word => k_is)
    (case cf_has_word => k_is)
    (case kf_has_word => k_is)
    (case af_is_claim => k_is)
    (case lf_is_claim => k_is)
    (case cf_is_claim => k_is)
    (case kf_is_claim => k_is)
    (case af_is_question => k_is)
    (case lf_is_question => k_is)
    (case cf_is_question => k_is)
    (case kf_is_question => k_is)
    (case af_reads_with => k_is)
    (case lf_reads_with => k_is)
    (case cf_reads_with => k_is)
    (case kf_reads_with => k_is)
    (case af_are_pages_out => k_is)
    (case lf_are_pages_out => k_is)
    (case cf_are_pages_out => k_is)
    (case kf_are_pages_out => k_is)
    (case af_proves_reads => k_is)
    (case lf_proves_reads => k_is)
    (case cf_proves_reads => k_is)
    (case kf_proves_reads => k_is)
    (case af_proves => k_is)
    (case lf_proves => k_is)
    (case cf_proves => k_is)
    (case kf_proves => k_is)
    (case af__law_box => k_is)
    (case lf__law_box => k_is)
    (case cf__law_box => k_is)
    (case kf__law_box => k_is)
    (case af__law_load => k_is)
    (case lf__law_load => k_is)
    (case cf__law_load => k_is)
    (case kf__law_load => k_is)
    (case af__law_draw => k_is)
    (case lf__law_draw => k_is)
    (case cf__law_draw => k_is)
    (case kf__law_draw => k_is)
    (case af__law_same => k_is)
    (case lf__law_same => k_is)
    (case cf__law_same => k_is)
    (case kf__law_same => k_is)
    (case af__law_history => k_is)
    (case lf__law_history => k_is)
    (case cf__law_history => k_is)
    (case kf__law_history => k_is)
    (case af__law_odd => k_is)
    (case lf__law_odd => k_is)
    (case cf__law_odd => k_is)
    (case kf__law_odd => k_is)
    (case af__law_kinds => k_is)
    (case lf__law_kinds => k_is)
    (case cf__law_kinds => k_is)
    (case kf__law_kinds => k_is)
    (case af__law_good => k_is)
    (case lf__law_good => k_is)
    (case cf__law_good => k_is)
    (case kf__law_good => k_is)
    (case af__law_bad => k_is)
    (case lf__law_bad => k_is)
    (case cf__law_bad => k_is)
    (case kf__law_bad => k_is)
    (case af__law_rows => k_is)
    (case lf__law_rows => k_is)
    (case cf__law_rows => k_is)
    (case kf__law_rows => k_is)
    (case af_law => k_is)
    (case lf_law => k_is)
    (case cf_law => k_is)
    (case kf_law => k_is)
    (case aCP => k_is)
    (case ap_init => k_is)
    (case ip_init => k_is)
    (case lp_init => k_is)
    (case cp_init => k_is)
    (case kp_init => k_is)
    (case ap_rows => k_is)
    (case ip_rows => k_is)
    (case lp_rows => k_is)
    (case cp_rows => k_is)
    (case kp_rows => k_is)
    (case ap_answer => k_is)
    (case ip_answer => k_is)
    (case lp_answer => k_is)
    (case cp_answer => k_is)
    (case kp_answer => k_is)
    (case pgC => k_is)
    (case hdC => k_is)
    (case poC => k_is)
    (case saC => k_is)
    (case mkC => k_is)
    (case kcC => k_is)
    (case nRC => k_is)
    (case nSC => k_is)
    (case gFORMS => k_is)
    (case lFORMS => k_is)
    (case kFORMS => exact ⟨⟨_, _, rfl, rfl⟩, ⟨_, _, rfl, rfl⟩, ⟨_, _, rfl, rfl⟩, ⟨_, _, rfl, rfl⟩, trivial⟩)
    (case sFORMS => first | rfl | decide)
    (case wFORMS0 => k_is)
    (case wFORMS1 => k_is)
    (case wFORMS2 => k_is)
    (case wFORMS3 => k_is)
    (case zFORMS0 => k_is)
    (case zFORMS1 => k_is)
    (case zFORMS2 => k_is)
    (case zFORMS3 => k_is)
    (case gASKED => k_is)
    (case lASKED => k_is)
    (case kASKED => exact ⟨⟨_, _, rfl, rfl⟩, ⟨_, _, rfl, rfl⟩, ⟨_, _, rfl, rfl⟩, trivial⟩)
    (case sASKED => first | rfl | decide)
    (case wASKED0 => k_is)
    (case wASKED1 => k_is)
    (case wASKED2 => k_is)
    (case zASKED0 => k_is)
    (case zASKED1 => k_is)
    (case zASKED2 => k_is)
    (case ev => exact K70.ev_law)
